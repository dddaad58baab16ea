import PyProof.Rows.All
import HandS.ForMost
import HandS.Wide
import HandS.IsInst
import HandS.Style
import HandS.Zip
import HandS.Conv
import HandS.NoneIn
import HandS.Walk
import HandS.Lambda
import HandS.TupLen
import KE.GoesMore
import HandS.WordsExc
import HandS.ExcCtx
import KE.KDictZip
import KE.GoesZip
import HandS.Gcd
import HandS.SortKw
import KE.SortKeyHeap
import HandS.ExcValue
import KE.GoesEnum
import KE.KDictPairs
import HandS.ExcInit
import HandS.HotCalls
import KE.KExcIs
import HandS.ExcField
import HandS.EndOwn
import HandS.SetFor
import HandS.Deep
import PySem.Challenge.RW_foldedsums_k18_lifts
set_option Elab.async false
set_option linter.all false
set_option maxRecDepth 100000
set_option maxHeartbeats 4000000
/-! DL: what a def does, told of data. Pure trees (D), mutable things by labels in a world (W). -/
namespace DL
open PySem PySem.Spec PyProof.Rows L2

inductive Ty where
  | non | bl | int | str | lst | tup | dct
  deriving DecidableEq
def Ty.nm : Ty → String
  | .non => "NoneType" | .bl => "bool" | .int => "int" | .str => "str" | .lst => "list" | .tup => "tuple" | .dct => "dict"
/-- a lambda's text, its qualified name -/
structure LamI where
  ix : Nat
  params : Arguments
  body : Expr
  scope : Scope
  qual : Str
/-- the function object of a lambda: its cells, its module, its code object -/
def LamF (L : LamI) (cells : List (Str × Addr)) (pm : Value) (c : Addr) (ctv : Value) (a : Addr) : Heap → Prop := fun h =>
  h.get? a = some (PySem.W.kla_obj "<lambda>" L.qual L.params L.body L.scope cells pm c ctv)
/-- data: frz is the script, a list that is locked -/
inductive D where
  | non | bl (b : Bool) | int (i : Int) | str (s : Str) | ty (t : Ty) | frz (xs : List D)
  | lst (xs : List D) | tup (xs : List D)
  | dK (kvs : List (Key × D)) | dT (kvs : List (List Key × D))
  | obj (C : Addr) (fs : List (Str × D))
  | lam (L : LamI) (cells : List (Str × Addr))
  | exc (x : Str) (C a dd : Addr) (fs : List (Str × D))
/-- a value at run time: data, or a label -/
inductive RV where
  | d (x : D) | r (l : Nat)
/-- what a label stands for: a list that may change; a thing that never changes again -/
inductive MO where
  | lst (xs : List RV)
  | fz (x : D)
  | dK (kvs : List (Key × D))
  | dT (kvs : List (List Key × D))
  | ins (C : Addr) (fs : List (Str × RV))
  | tbl (P : Addr) (q : Str)
def MO.mut : MO → Prop
  | .fz _ => False
  | _ => True
abbrev Wd := List MO
/-- an exception: its class's name, its fields -/
structure DX where
  cls : Str
  fs : List (Str × D)
abbrev Env := List (Option RV)

/-- the readings' monad -/
abbrev M (α : Type) := Wd → Option (Except DX α × Wd)
def M.ret {α : Type} (a : α) : M α := fun W => some (.ok a, W)
def M.fail {α : Type} : M α := fun _ => none
def M.bind {α β : Type} (m : M α) (f : α → M β) : M β := fun W =>
  match m W with
  | none => none
  | some (.ok a, W') => f a W'
  | some (.error e, W') => some (.error e, W')
def M.opt {α : Type} (o : Option α) : M α := fun W => match o with | some a => some (.ok a, W) | none => none
instance : Monad M where
  pure := M.ret
  bind := M.bind
def wpM {α : Type} (m : M α) (W : Wd) (Q : α → Wd → Prop) (E : DX → Wd → Prop) : Prop :=
  match m W with
  | none => False
  | some (.ok a, W') => Q a W'
  | some (.error e, W') => E e W'
theorem wpM_bind {α β : Type} {m : M α} {f : α → M β} {W : Wd} {Q : β → Wd → Prop} {E : DX → Wd → Prop} : wpM (m.bind f) W Q E ↔ wpM m W (fun a W' => wpM (f a) W' Q E) E := by
  unfold wpM M.bind
  cases m W with
  | none => exact Iff.rfl
  | some p =>
    obtain ⟨r, W'⟩ := p
    cases r with
    | ok a => exact Iff.rfl
    | error e => exact Iff.rfl
theorem wpM_ret {α : Type} {a : α} {W : Wd} {Q : α → Wd → Prop} {E : DX → Wd → Prop} : wpM (M.ret a) W Q E ↔ Q a W := Iff.rfl
theorem wpM_opt {α : Type} {o : Option α} {W : Wd} {Q : α → Wd → Prop} {E : DX → Wd → Prop} (h : wpM (M.opt o) W Q E) : ∃ a, o = some a ∧ Q a W := by
  cases o with
  | none => exact h.elim
  | some a => exact ⟨a, rfl, h⟩
theorem wpM_mono {α : Type} {m : M α} {W : Wd} {Q Q' : α → Wd → Prop} {E E' : DX → Wd → Prop} (h : wpM m W Q E) (hq : ∀ a W', Q a W' → Q' a W') (he : ∀ e W', E e W' → E' e W') : wpM m W Q' E' := by
  unfold wpM at h ⊢
  cases e : m W with
  | none => rw [e] at h; exact h.elim
  | some p =>
    obtain ⟨r, W'⟩ := p
    rw [e] at h
    cases r with
    | ok a => exact hq _ _ h
    | error e => exact he _ _ h

/-! ### what is fixed through a def's body; a configuration -/
structure Gh where
  K : PySem.W.Frag
  Ex : XK
  cv : Str → Value
structure Cf where
  H : Hp
  ren : Nat → Addr
  W : Wd
  Ao : Addr → Prop
def Cf.live (c : Cf) (a : Addr) : Prop := ∃ l o, c.W[l]? = some o ∧ o.mut ∧ c.ren l = a
def Av (c : Cf) (a : Addr) : Prop := c.Ao a ∨ c.live a
mutual
def Rep (c : Cf) : D → V → Prop
  | .non, v => v = .non
  | .bl b, v => v = .bl b
  | .int i, v => v = .int i
  | .str s, v => v = .str s
  | .ty t, v => v = .ty t.nm
  | .frz xs, v => ∃ a o vs, v = .ref a ∧ c.H a = some (.frz o (.lst vs)) ∧ ¬ Av c a ∧ RepL c xs vs
  | .lst xs, v => ∃ a vs, v = .ref a ∧ c.H a = some (.lst vs) ∧ ¬ Av c a ∧ RepL c xs vs
  | .tup xs, v => ∃ a vs, v = .ref a ∧ c.H a = some (.tup vs) ∧ ¬ Av c a ∧ RepL c xs vs
  | .dK kvs, v => ∃ a ws, v = .ref a ∧ Rd c.H a (.dK ws) ∧ ¬ Av c a ∧ RepK c kvs ws
  | .dT kvs, v => ∃ a ws, v = .ref a ∧ Rd c.H a (.dT ws) ∧ ¬ Av c a ∧ RepT c kvs ws
  | .obj C fs, v => ∃ a dx ws, v = .ref a ∧ c.H a = some (.ins C dx ws) ∧ ¬ Av c a ∧ RepN c fs ws
  | .lam L cells, v => ∃ a c' pm ctv, v = .ref a ∧ c.H a = some (.ext (LamF L cells pm c' ctv a)) ∧ ¬ Av c a ∧ c.H c' = some (LamX.CodeO c' L.qual) ∧ ¬ Av c c'
  | .exc _ _ a dd fs, v => v = .ref a ∧ ∃ ws, c.H dd = some (.xd ws) ∧ ¬ Av c dd ∧ RepN c fs ws
def RepL (c : Cf) : List D → List V → Prop
  | [], vs => vs = []
  | x :: xs, vs => ∃ v r, vs = v :: r ∧ Rep c x v ∧ RepL c xs r
def RepK (c : Cf) : List (Key × D) → List (Key × V) → Prop
  | [], ws => ws = []
  | (k, x) :: xs, ws => ∃ v r, ws = (k, v) :: r ∧ Rep c x v ∧ RepK c xs r
def RepT (c : Cf) : List (List Key × D) → List (List Key × V) → Prop
  | [], ws => ws = []
  | (k, x) :: xs, ws => ∃ v r, ws = (k, v) :: r ∧ Rep c x v ∧ RepT c xs r
def RepN (c : Cf) : List (Str × D) → List (Str × V) → Prop
  | [], ws => ws = []
  | (k, x) :: xs, ws => ∃ v r, ws = (k, v) :: r ∧ Rep c x v ∧ RepN c xs r
end
structure Ext (c c' : Cf) : Prop where
  keep : ∀ b o, c.H b = some o → ¬ c.live b → c'.H b = some o
  dead : ∀ b o, c.H b = some o → ¬ c.live b → ¬ c'.live b
  ren : ∀ l, l < c.W.length → c'.ren l = c.ren l
  len : c.W.length ≤ c'.W.length
  ao : c'.Ao = c.Ao
theorem Ext.refl (c : Cf) : Ext c c := ⟨fun _ _ h _ => h, fun _ _ _ h => h, fun _ _ => rfl, Nat.le_refl _, rfl⟩
theorem Ext.trans {c c1 c2 : Cf} (a : Ext c c1) (b : Ext c1 c2) : Ext c c2 :=
  ⟨fun x o h n => b.keep x o (a.keep x o h n) (a.dead x o h n), fun x o h n => b.dead x o (a.keep x o h n) (a.dead x o h n),
   fun l h => (b.ren l (Nat.lt_of_lt_of_le h a.len)).trans (a.ren l h), Nat.le_trans a.len b.len, b.ao.trans a.ao⟩
section
variable {G : Gh} {c c' : Cf}
/-- what is kept of things that never change -/
def IsDic : HO → Prop
  | .dK _ => True
  | .dT _ => True
  | _ => False
/-- the same, but for a lock of a dict -/
def LkEq (o : HO) (h : Option HO) : Prop := h = some o ∨ (∃ od, IsDic o ∧ h = some (.frz od o)) ∨ ∃ od u, IsDic u ∧ o = .frz od u ∧ h = some u
/-- a note: the object that stands there is known (no reading of data leans on it) -/
def Note (o : HO) : Prop := ∃ ob x, o = .frz ob (.own x)
def Kp (c c' : Cf) : Prop := ∀ b o, c.H b = some o → ¬ Note o → ¬ Av c b → LkEq o (c'.H b) ∧ ¬ Av c' b
/-- what readings of data lean on -/
structure Wk (c c' : Cf) : Prop where
  keep : ∀ b o, c.H b = some o → ¬ Av c b → c'.H b = some o ∧ ¬ Av c' b
  ren : ∀ l, l < c.W.length → c'.ren l = c.ren l
  len : c.W.length ≤ c'.W.length
theorem Ext.wk (e : Ext c c') : Wk c c' := ⟨fun b o h n => ⟨e.keep b o h fun q => n (.inr q), fun z => z.elim (fun y => n (.inl (by rw [← e.ao]; exact y))) fun y => e.dead b o h (fun q => n (.inr q)) y⟩, e.ren, e.len⟩
theorem Kp.at (e : Kp c c') {a : Addr} {o : HO} (h : c.H a = some o) (n : ¬ Av c a) (nd : ¬ IsDic o := by exact fun z => z) (nf : ∀ od u, IsDic u → o ≠ .frz od u := by intro _ _ q z; first | (cases z; done) | (cases z; exact q)) (nn : ¬ Note o := by rintro ⟨_, _, z⟩; cases z) : c'.H a = some o := by
  rcases (e a o h nn n).1 with h1 | ⟨_, h1, _⟩ | ⟨od, u, h1, h2, _⟩
  · exact h1
  · exact absurd h1 nd
  · exact absurd h2 (nf od u h1)
theorem Kp.rd (e : Kp c c') {a : Addr} {u : HO} (h : Rd c.H a u) (n : ¬ Av c a) (d : IsDic u) : Rd c'.H a u := by
  have nf : ∀ od u', u ≠ .frz od u' := fun od u' z => by subst z; exact d
  have n1 : ¬ Note u := by rintro ⟨_, _, z⟩; subst z; exact d
  have n2 : ∀ od, ¬ Note (.frz od u) := by rintro od ⟨_, _, z⟩; cases z; exact d
  rcases h with h | ⟨od, h⟩
  · rcases (e a _ h n1 n).1 with h1 | ⟨od, _, h1⟩ | ⟨od, u', _, h2, _⟩
    · exact .inl h1
    · exact .inr ⟨od, h1⟩
    · exact absurd h2 (nf od u')
  · rcases (e a _ h (n2 od) n).1 with h1 | ⟨od', h1, _⟩ | ⟨od', u', _, h2, h3⟩
    · exact .inr ⟨od, h1⟩
    · exact h1.elim
    · cases h2
      exact .inl h3
theorem Kp.of (e : Wk c c') : Kp c c' := fun b o h _ n => ⟨.inl (e.keep b o h n).1, (e.keep b o h n).2⟩
theorem Kp.av (e : Kp c c') {a : Addr} {o : HO} (h : c.H a = some o) (n : ¬ Av c a) (nn : ¬ Note o := by rintro ⟨_, _, z⟩; cases z) : ¬ Av c' a := (e a o h nn n).2
theorem Kp.avR (e : Kp c c') {a : Addr} {u : HO} (h : Rd c.H a u) (n : ¬ Av c a) (d : IsDic u := by exact trivial) : ¬ Av c' a := h.elim (fun h => (e a _ h (by rintro ⟨_, _, z⟩; subst z; exact d) n).2) fun ⟨_, h⟩ => (e a _ h (by rintro ⟨_, _, z⟩; cases z; exact d) n).2
theorem Wk.at (e : Wk c c') {a : Addr} {o : HO} (h : c.H a = some o) (n : ¬ Av c a) : c'.H a = some o := (e.keep a o h n).1
theorem Wk.av (e : Wk c c') {a : Addr} {o : HO} (h : c.H a = some o) (n : ¬ Av c a) : ¬ Av c' a := (e.keep a o h n).2
mutual
theorem Rep.monoK (e : Kp c c') : ∀ (x : D) (v : V), Rep c x v → Rep c' x v
  | .non, _, h => h
  | .bl _, _, h => h
  | .int _, _, h => h
  | .str _, _, h => h
  | .ty _, _, h => h
  | .frz xs, v, h => by
    obtain ⟨a, o, vs, rfl, s, n, r⟩ := h
    exact ⟨a, o, vs, rfl, e.at s n, e.av s n, RepL.monoK e xs vs r⟩
  | .lst xs, v, h => by
    obtain ⟨a, vs, rfl, s, n, r⟩ := h
    exact ⟨a, vs, rfl, e.at s n, e.av s n, RepL.monoK e xs vs r⟩
  | .tup xs, v, h => by
    obtain ⟨a, vs, rfl, s, n, r⟩ := h
    exact ⟨a, vs, rfl, e.at s n, e.av s n, RepL.monoK e xs vs r⟩
  | .dK xs, v, h => by
    obtain ⟨a, vs, rfl, s, n, r⟩ := h
    exact ⟨a, vs, rfl, e.rd s n trivial, e.avR s n, RepK.monoK e xs vs r⟩
  | .dT xs, v, h => by
    obtain ⟨a, vs, rfl, s, n, r⟩ := h
    exact ⟨a, vs, rfl, e.rd s n trivial, e.avR s n, RepT.monoK e xs vs r⟩
  | .obj C fs, v, h => by
    obtain ⟨a, dx, vs, rfl, s, n, r⟩ := h
    exact ⟨a, dx, vs, rfl, e.at s n, e.av s n, RepN.monoK e fs vs r⟩
  | .exc _ _ a dd fs, v, h => by
    obtain ⟨rfl, ws, s, n, r⟩ := h
    exact ⟨rfl, ws, e.at s n, e.av s n, RepN.monoK e fs ws r⟩
  | .lam L cells, v, h => by
    obtain ⟨a, c', pm, ctv, rfl, s, n, s2, n2⟩ := h
    exact ⟨a, c', pm, ctv, rfl, e.at s n, e.av s n, e.at (o := LamX.CodeO c' L.qual) s2 n2 (by unfold LamX.CodeO; exact fun z => z) (by unfold LamX.CodeO; intro _ _ q z; cases z) (by unfold LamX.CodeO; rintro ⟨_, _, z⟩; cases z), e.av (o := LamX.CodeO c' L.qual) s2 n2 (by unfold LamX.CodeO; rintro ⟨_, _, z⟩; cases z)⟩
theorem RepL.monoK (e : Kp c c') : ∀ (xs : List D) (vs : List V), RepL c xs vs → RepL c' xs vs
  | [], _, h => h
  | x :: xs, _, h => by
    obtain ⟨v, r, rfl, h1, h2⟩ := h
    exact ⟨v, r, rfl, Rep.monoK e x v h1, RepL.monoK e xs r h2⟩
theorem RepK.monoK (e : Kp c c') : ∀ (xs : List (Key × D)) (vs : List (Key × V)), RepK c xs vs → RepK c' xs vs
  | [], _, h => h
  | (k, x) :: xs, _, h => by
    obtain ⟨v, r, rfl, h1, h2⟩ := h
    exact ⟨v, r, rfl, Rep.monoK e x v h1, RepK.monoK e xs r h2⟩
theorem RepT.monoK (e : Kp c c') : ∀ (xs : List (List Key × D)) (vs : List (List Key × V)), RepT c xs vs → RepT c' xs vs
  | [], _, h => h
  | (k, x) :: xs, _, h => by
    obtain ⟨v, r, rfl, h1, h2⟩ := h
    exact ⟨v, r, rfl, Rep.monoK e x v h1, RepT.monoK e xs r h2⟩
theorem RepN.monoK (e : Kp c c') : ∀ (xs : List (Str × D)) (vs : List (Str × V)), RepN c xs vs → RepN c' xs vs
  | [], _, h => h
  | (k, x) :: xs, _, h => by
    obtain ⟨v, r, rfl, h1, h2⟩ := h
    exact ⟨v, r, rfl, Rep.monoK e x v h1, RepN.monoK e xs r h2⟩
end
theorem Rep.monoW (e : Wk c c') (x : D) (v : V) (h : Rep c x v) : Rep c' x v := Rep.monoK (Kp.of e) x v h
theorem RepL.monoW (e : Wk c c') (x : List D) (v : List V) (h : RepL c x v) : RepL c' x v := RepL.monoK (Kp.of e) x v h
theorem RepK.monoW (e : Wk c c') (x : List (Key × D)) (v : List (Key × V)) (h : RepK c x v) : RepK c' x v := RepK.monoK (Kp.of e) x v h
theorem RepT.monoW (e : Wk c c') (x : List (List Key × D)) (v : List (List Key × V)) (h : RepT c x v) : RepT c' x v := RepT.monoK (Kp.of e) x v h
theorem RepN.monoW (e : Wk c c') (x : List (Str × D)) (v : List (Str × V)) (h : RepN c x v) : RepN c' x v := RepN.monoK (Kp.of e) x v h
theorem Rep.mono (e : Ext c c') (x : D) (v : V) (h : Rep c x v) : Rep c' x v := Rep.monoW e.wk x v h
theorem RepL.mono (e : Ext c c') (x : List D) (v : List V) (h : RepL c x v) : RepL c' x v := RepL.monoW e.wk x v h
def RepRV (c : Cf) : RV → V → Prop
  | .d x, v => Rep c x v
  | .r l, v => v = .ref (c.ren l) ∧ l < c.W.length
theorem RepRV.monoW (e : Wk c c') {x : RV} {v : V} (h : RepRV c x v) : RepRV c' x v := by
  cases x with
  | d x => exact Rep.monoW e x v h
  | r l => exact ⟨by rw [e.ren l h.2]; exact h.1, Nat.lt_of_lt_of_le h.2 e.len⟩
theorem RepRV.mono (e : Ext c c') {x : RV} {v : V} (h : RepRV c x v) : RepRV c' x v := h.monoW e.wk
def RepVs (c : Cf) (xs : List RV) (vs : List V) : Prop := Paired (RepRV c) xs vs
theorem RepVs.monoW (e : Wk c c') {xs : List RV} {vs : List V} (h : RepVs c xs vs) : RepVs c' xs vs := Paired.mapP h fun _ _ => RepRV.monoW e
theorem RepVs.mono (e : Ext c c') {xs : List RV} {vs : List V} (h : RepVs c xs vs) : RepVs c' xs vs := RepVs.monoW e.wk h
/-- fields of an object that may change -/
def RepFs (c : Cf) (xs : List (Str × RV)) (vs : List (Str × V)) : Prop := Paired (fun p q => p.1 = q.1 ∧ RepRV c p.2 q.2) xs vs
theorem RepFs.monoW (e : Wk c c') {xs : List (Str × RV)} {vs : List (Str × V)} (h : RepFs c xs vs) : RepFs c' xs vs := Paired.mapP h fun _ _ q => ⟨q.1, q.2.monoW e⟩
def RepO (c : Cf) : MO → Addr → Prop
  | .lst xs, a => ∃ vs, c.H a = some (.lst vs) ∧ RepVs c xs vs
  | .fz x, a => Rep c x (.ref a)
  | .dK kvs, a => ∃ ws, c.H a = some (.dK ws) ∧ RepK c kvs ws
  | .dT kvs, a => ∃ ws, c.H a = some (.dT ws) ∧ RepT c kvs ws
  | .ins C fs, a => ∃ dx ws, c.H a = some (.ins C dx ws) ∧ RepFs c fs ws
  | .tbl P q, a => a = P ∧ ∃ ps : Array Value, c.H a = some (.tbl ps) ∧ TriplesOk ps.toList ∧ ∀ (pos : Pos) (cv : Value), codeAmong pos ps.toList = some cv → ∃ c', cv = .ref c' ∧ c.H c' = some (LamX.CodeO c' q) ∧ ¬ Av c c'
/-- no tuple -/
def NoTup (o : HO) : Prop := ∀ vs, o ≠ .tup vs
structure WOk (c : Cf) : Prop where
  obj : ∀ l o, c.W[l]? = some o → RepO c o (c.ren l)
  inj : ∀ l l' o o', c.W[l]? = some o → o.mut → c.W[l']? = some o' → o'.mut → c.ren l = c.ren l' → l = l'
  out : ∀ l o, c.W[l]? = some o → o.mut → ¬ c.Ao (c.ren l)
  ao : ∀ a, c.Ao a → ∃ o, c.H a = some o ∧ NoTup o
theorem RepO.at {a : Addr} {o : MO} (h : RepO c o a) (m : o.mut) : ∃ ho, c.H a = some ho := by
  cases o with
  | lst xs => obtain ⟨vs, e, _⟩ := h; exact ⟨_, e⟩
  | fz x => exact m.elim
  | dK xs => obtain ⟨vs, e, _⟩ := h; exact ⟨_, e⟩
  | dT xs => obtain ⟨vs, e, _⟩ := h; exact ⟨_, e⟩
  | ins C xs => obtain ⟨dx, vs, e, _⟩ := h; exact ⟨_, e⟩
  | tbl P q => obtain ⟨_, ps, e, _⟩ := h; exact ⟨_, e⟩
/-- behind an extension that leaves the object -/
theorem RepO.monoW (e : Wk c c') {a : Addr} {o : MO} (h : RepO c o a) (k : o.mut → ∀ ho, c.H a = some ho → c'.H a = some ho) : RepO c' o a := by
  cases o with
  | lst xs => obtain ⟨vs, q, r⟩ := h; exact ⟨vs, k trivial _ q, RepVs.monoW e r⟩
  | fz x => exact Rep.monoW e x _ h
  | dK xs => obtain ⟨vs, q, r⟩ := h; exact ⟨vs, k trivial _ q, RepK.monoW e _ _ r⟩
  | dT xs => obtain ⟨vs, q, r⟩ := h; exact ⟨vs, k trivial _ q, RepT.monoW e _ _ r⟩
  | ins C xs => obtain ⟨dx, vs, q, r⟩ := h; exact ⟨dx, vs, k trivial _ q, r.monoW e⟩
  | tbl _ _ => obtain ⟨z0, ps, q, t, r⟩ := h; exact ⟨z0, ps, k trivial _ q, t, fun pos cv hc => (r pos cv hc).imp fun c' z => ⟨z.1, e.at z.2.1 z.2.2, e.av z.2.1 z.2.2⟩⟩
theorem RepO.mono (e : Ext c c') {a : Addr} {o : MO} (h : RepO c o a) (k : o.mut → ∀ ho, c.H a = some ho → c'.H a = some ho) : RepO c' o a := h.monoW e.wk k
theorem WOk.has (w : WOk c) {a : Addr} (h : Av c a) : ∃ o, c.H a = some o := by
  rcases h with h | ⟨l, o, h, m, rfl⟩
  · exact (w.ao a h).imp fun _ q => q.1
  · exact (w.obj l o h).at m
/-- a tuple never changes -/
theorem WOk.tup (w : WOk c) {a : Addr} {vs : List V} (h : c.H a = some (.tup vs)) : ¬ Av c a := fun z => by
  rcases z with z | ⟨l, o, hl, m, rfl⟩
  · obtain ⟨o, h1, h2⟩ := w.ao a z
    rw [h] at h1
    cases h1
    exact h2 vs rfl
  · have r := w.obj l o hl
    cases o with
    | lst xs => obtain ⟨vs', e, _⟩ := r; rw [h] at e; cases e
    | fz x => exact m
    | dK xs => obtain ⟨vs', e, _⟩ := r; rw [h] at e; cases e
    | dT xs => obtain ⟨vs', e, _⟩ := r; rw [h] at e; cases e
    | ins C xs => obtain ⟨dx, vs', e, _⟩ := r; rw [h] at e; cases e
    | tbl P q => obtain ⟨_, ps, e, _⟩ := r; rw [h] at e; cases e
theorem WOk.fresh (w : WOk c) {a : Addr} (h : c.H a = none) : ¬ Av c a := fun z => by
  obtain ⟨o, e⟩ := w.has z
  rw [h] at e
  cases e
/-- a change that leaves the world's labels and all their objects -/
theorem WOk.of (w : WOk c) {H' : Hp} (k : ∀ b o, c.H b = some o → H' b = some o) : Ext c ⟨H', c.ren, c.W, c.Ao⟩ ∧ WOk ⟨H', c.ren, c.W, c.Ao⟩ := by
  have e : Ext c ⟨H', c.ren, c.W, c.Ao⟩ := ⟨fun b u hb _ => k b u hb, fun _ _ _ n => n, fun _ _ => rfl, Nat.le_refl _, rfl⟩
  refine ⟨e, fun l u hl => (w.obj l u hl).mono e fun _ ho h => k _ _ h, w.inj, w.out, fun a ha => ?_⟩
  obtain ⟨u, hu, nt⟩ := w.ao a ha
  exact ⟨u, k _ _ hu, nt⟩
/-- a pure thing is laid -/
abbrev Cf.lay (c : Cf) (p : Addr) (o : HO) : Cf := ⟨upd c.H p o, c.ren, c.W, c.Ao⟩
theorem lay_keep {p : Addr} {o : HO} (h : c.H p = none) : ∀ b u, c.H b = some u → upd c.H p o b = some u := fun b u hb => by rw [upd_ne (ne_of_none hb h)]; exact hb
theorem WOk.lay (w : WOk c) {p : Addr} {o : HO} (h : c.H p = none) : Ext c (c.lay p o) ∧ WOk (c.lay p o) := w.of (lay_keep h)
theorem WOk.layAv (w : WOk c) {p : Addr} {o : HO} (h : c.H p = none) : ¬ Av (c.lay p o) p := w.fresh h
/-- a mutable thing is laid at a new label -/
abbrev Cf.new (c : Cf) (p : Addr) (o : HO) (m : MO) : Cf := ⟨upd c.H p o, fun l => if l = c.W.length then p else c.ren l, c.W ++ [m], c.Ao⟩
theorem look_new {W : Wd} {m u : MO} {l : Nat} (hl : (W ++ [m])[l]? = some u) : (l < W.length ∧ W[l]? = some u) ∨ (l = W.length ∧ u = m) := by
  by_cases lt : l < W.length
  · rw [List.getElem?_append_left lt] at hl
    exact .inl ⟨lt, hl⟩
  · rw [List.getElem?_append_right (by omega)] at hl
    have : l - W.length = 0 := by
      have := (List.getElem?_eq_some_iff.mp hl).1
      rw [List.length_singleton] at this
      omega
    rw [this] at hl
    have e1 : m = u := by simpa using hl
    exact .inr ⟨by omega, e1.symm⟩
theorem ren_new {p : Addr} {o : HO} {m : MO} {l : Nat} (h : l < c.W.length) : (c.new p o m).ren l = c.ren l := by
  show (if l = c.W.length then p else c.ren l) = _
  rw [if_neg (by omega)]
theorem ren_last {p : Addr} {o : HO} {m : MO} : (c.new p o m).ren c.W.length = p := by show (if c.W.length = c.W.length then p else _) = p; rw [if_pos rfl]
theorem Ext.new {p : Addr} {o : HO} {m : MO} (h : c.H p = none) : Ext c (c.new p o m) := by
  refine ⟨fun b u hb _ => lay_keep h b u hb, fun b u hb n z => ?_, fun l hl => ren_new hl, ?_, rfl⟩
  · obtain ⟨l, x, hl, mu, rfl⟩ := z
    rcases look_new hl with ⟨lt, hl⟩ | ⟨rfl, rfl⟩
    · exact n ⟨l, x, hl, mu, (ren_new lt).symm⟩
    · rw [ren_last] at hb
      rw [h] at hb; cases hb
  · show c.W.length ≤ (c.W ++ [m]).length
    rw [List.length_append]; omega
theorem WOk.new (w : WOk c) {p : Addr} {o : HO} {m : MO} (h : c.H p = none) (r : RepO (c.new p o m) m p) : WOk (c.new p o m) := by
  have e := Ext.new (c := c) (o := o) (m := m) h
  refine ⟨fun l u hl => ?_, fun l l' u u' hl mu hl' mu' q => ?_, fun l u hl mu => ?_, fun a ha => ?_⟩
  · rcases look_new hl with ⟨lt, hl⟩ | ⟨rfl, rfl⟩
    · rw [ren_new lt]
      exact (w.obj l u hl).mono e fun _ ho q => lay_keep h _ _ q
    · rw [ren_last]; exact r
  · rcases look_new hl with ⟨lt, h3⟩ | ⟨e3, _⟩ <;> rcases look_new hl' with ⟨lt', h4⟩ | ⟨e4, _⟩
    · rw [ren_new lt, ren_new lt'] at q
      exact w.inj l l' u u' h3 mu h4 mu' q
    · rw [ren_new lt, e4, ren_last] at q
      obtain ⟨ho, h1⟩ := (w.obj l u h3).at mu
      rw [q, h] at h1; cases h1
    · rw [ren_new lt', e3, ren_last] at q
      obtain ⟨ho, h1⟩ := (w.obj l' u' h4).at mu'
      rw [← q, h] at h1; cases h1
    · rw [e3, e4]
  · rcases look_new hl with ⟨lt, h3⟩ | ⟨e3, _⟩
    · rw [ren_new lt]; exact w.out l u h3 mu
    · rw [e3, ren_last]; exact fun z => w.fresh h (.inl z)
  · obtain ⟨u, hu, nt⟩ := w.ao a ha
    exact ⟨u, lay_keep h _ _ hu, nt⟩
/-- the thing at a label is changed -/
abbrev Cf.put (c : Cf) (l : Nat) (o : HO) (m : MO) : Cf := ⟨upd c.H (c.ren l) o, c.ren, c.W.set l m, c.Ao⟩
theorem look_set {W : Wd} {l k : Nat} {m u : MO} (h : (W.set l m)[k]? = some u) : (k ≠ l ∧ W[k]? = some u) ∨ (k = l ∧ u = m) := by
  by_cases e : k = l
  · subst e
    rw [List.getElem?_set_self'] at h
    cases q : W[k]? with
    | none => rw [q] at h; simp at h
    | some z => rw [q] at h; exact .inr ⟨rfl, by simpa using h.symm⟩
  · rw [List.getElem?_set_ne (Ne.symm e)] at h
    exact .inl ⟨e, h⟩
theorem put_keep {l : Nat} {o : HO} {m0 : MO} (h : c.W[l]? = some m0) (mu : m0.mut) : ∀ b u, c.H b = some u → ¬ c.live b → upd c.H (c.ren l) o b = some u := fun b u hb n => by
  rw [upd_ne (fun (q : b = c.ren l) => n ⟨l, m0, h, mu, q.symm⟩)]; exact hb
theorem Ext.put {l : Nat} {o : HO} {m m0 : MO} (h : c.W[l]? = some m0) (mu : m0.mut) : Ext c (c.put l o m) := by
  refine ⟨put_keep h mu, fun b u hb n z => ?_, fun _ _ => rfl, ?_, rfl⟩
  · obtain ⟨k, x, hk, mx, rfl⟩ := z
    rcases look_set hk with ⟨_, hk⟩ | ⟨rfl, _⟩
    · exact n ⟨k, x, hk, mx, rfl⟩
    · exact n ⟨k, m0, h, mu, rfl⟩
  · show c.W.length ≤ (c.W.set l _).length
    rw [List.length_set]; exact Nat.le_refl _
theorem WOk.put (w : WOk c) {l : Nat} {o : HO} {m m0 : MO} (h : c.W[l]? = some m0) (mu : m0.mut) (r : RepO (c.put l o m) m (c.ren l)) : WOk (c.put l o m) := by
  have e := Ext.put (c := c) (o := o) (m := m) h mu
  refine ⟨fun k u hk => ?_, fun k k' u u' hk mk hk' mk' q => ?_, fun k u hk mk => ?_, fun a ha => ?_⟩
  · rcases look_set hk with ⟨ne, hk⟩ | ⟨rfl, rfl⟩
    · refine (w.obj k u hk).mono e fun mk ho q => ?_
      show upd c.H (c.ren l) o (c.ren k) = _
      rw [upd_ne (fun q => ne (w.inj k l u m0 hk mk h mu q))]; exact q
    · exact r
  · rcases look_set hk with ⟨_, h3⟩ | ⟨e3, _⟩ <;> rcases look_set hk' with ⟨_, h4⟩ | ⟨e4, _⟩
    · exact w.inj k k' u u' h3 mk h4 mk' q
    · subst e4; exact w.inj k k' u m0 h3 mk h mu q
    · subst e3; exact w.inj k k' m0 u' h mu h4 mk' q
    · rw [e3, e4]
  · rcases look_set hk with ⟨_, hk⟩ | ⟨rfl, _⟩
    · exact w.out k u hk mk
    · exact w.out k m0 h mu
  · obtain ⟨u, hu, nt⟩ := w.ao a ha
    by_cases q : a = c.ren l
    · exact absurd ha (q ▸ w.out l m0 h mu)
    · exact ⟨u, by show upd c.H (c.ren l) o a = _; rw [upd_ne q]; exact hu, nt⟩
/-- a label's thing never changes again -/
abbrev Cf.fz (c : Cf) (l : Nat) (x : D) : Cf := ⟨c.H, c.ren, c.W.set l (.fz x), c.Ao⟩
theorem Ext.fz {l : Nat} {x : D} : Ext c (c.fz l x) := by
  refine ⟨fun _ _ h _ => h, fun b o hb n z => ?_, fun _ _ => rfl, by show c.W.length ≤ (c.W.set l _).length; rw [List.length_set]; exact Nat.le_refl _, rfl⟩
  obtain ⟨k, u, hk, mk, rfl⟩ := z
  rcases look_set hk with ⟨_, hk⟩ | ⟨rfl, rfl⟩
  · exact n ⟨k, u, hk, mk, rfl⟩
  · exact mk
theorem WOk.fzAv (w : WOk c) {l : Nat} {m : MO} {x : D} (h : c.W[l]? = some m) (mu : m.mut) : ¬ Av (c.fz l x) (c.ren l) := fun z => by
  rcases z with z | ⟨k, u, hk, mk, q⟩
  · exact w.out l m h mu z
  · rcases look_set hk with ⟨ne, hk⟩ | ⟨rfl, rfl⟩
    · exact ne (w.inj k l u m hk mk h mu q)
    · exact mk
theorem WOk.fz (w : WOk c) {l : Nat} {m : MO} {x : D} (h : c.W[l]? = some m) (mu : m.mut) (r : Rep (c.fz l x) x (.ref (c.ren l))) : WOk (c.fz l x) := by
  refine ⟨fun k u hk => ?_, fun k k' u u' hk mk hk' mk' q => ?_, fun k u hk mk => ?_, w.ao⟩
  · rcases look_set hk with ⟨_, hk⟩ | ⟨rfl, rfl⟩
    · exact (w.obj k u hk).mono Ext.fz fun _ _ q => q
    · exact r
  · rcases look_set hk with ⟨_, h3⟩ | ⟨e3, z3⟩ <;> rcases look_set hk' with ⟨_, h4⟩ | ⟨e4, z4⟩
    · exact w.inj k k' u u' h3 mk h4 mk' q
    · rw [z4] at mk'; exact mk'.elim
    · rw [z3] at mk; exact mk.elim
    · rw [e3, e4]
  · rcases look_set hk with ⟨_, hk⟩ | ⟨rfl, rfl⟩
    · exact w.out k u hk mk
    · exact mk.elim
end
end DL
set_option Elab.async false
set_option linter.all false
set_option maxRecDepth 100000
set_option maxHeartbeats 4000000
/-! DL2: judgements, and the rules of expressions. -/
namespace DL
open PySem PySem.Spec PyProof.Rows L2
/-! ### what is wanted behind -/
def RepF (c : Cf) (fs : List (Str × D)) (ws : List (Str × V)) : Prop := Paired (fun p q => p.1 = q.1 ∧ Rep c p.2 q.2) fs ws
def RepX (G : Gh) (c : Cf) (e : DX) (C : Value) (d : Option Addr) : Prop :=
  C = G.cv e.cls ∧ ((∃ dd ws, d = some dd ∧ c.H dd = some (.xd ws) ∧ ¬ Av c dd ∧ RepF c e.fs ws) ∨ (e.fs = [] ∧ d = none))
def QV (c : Cf) (Q : VK) : RV → Wd → Prop := fun v W' => ∀ x c', c'.W = W' → Ext c c' → WOk c' → RepRV c' v x → Q x c'.H
def QE (G : Gh) (c : Cf) : DX → Wd → Prop := fun e W' => ∀ C d c', c'.W = W' → Ext c c' → WOk c' → RepX G c' e C d → G.Ex C d c'.H
def QB (c : Cf) (Q : Bool → Hp → Prop) : Bool → Wd → Prop := fun b W' => ∀ c', c'.W = W' → Ext c c' → WOk c' → Q b c'.H
def QA (c : Cf) (Q : List V → Hp → Prop) : List RV → Wd → Prop := fun vs W' => ∀ xs c', c'.W = W' → Ext c c' → WOk c' → RepVs c' vs xs → Q xs c'.H
section
variable {G : Gh} {c c1 : Cf}
theorem QV.mono {Q : VK} {v : RV} {W : Wd} (e : Ext c c1) (h : QV c Q v W) : QV c1 Q v W := fun x c' hw e' w r => h x c' hw (e.trans e') w r
theorem QE.mono {x : DX} {W : Wd} (e : Ext c c1) (h : QE G c x W) : QE G c1 x W := fun C d c' hw e' w r => h C d c' hw (e.trans e') w r
theorem QB.mono {Q : Bool → Hp → Prop} {b : Bool} {W : Wd} (e : Ext c c1) (h : QB c Q b W) : QB c1 Q b W := fun c' hw e' w => h c' hw (e.trans e') w
theorem QA.mono {Q : List V → Hp → Prop} {vs : List RV} {W : Wd} (e : Ext c c1) (h : QA c Q vs W) : QA c1 Q vs W := fun x c' hw e' w r => h x c' hw (e.trans e') w r
theorem QV.here {Q : VK} {v : RV} {x : V} (h : QV c Q v c.W) (w : WOk c) (r : RepRV c v x) : Q x c.H := h x c rfl (Ext.refl c) w r
end
structure SOk (σ : L2.St) (δ : Env) (c : Cf) : Prop where
  len : σ.length = δ.length
  get : ∀ (i : Nat) (rv : RV), δ[i]? = some (some rv) → ∃ v, σ[i]? = some (some v) ∧ RepRV c rv v
theorem SOk.mono {σ : L2.St} {δ : Env} {c c' : Cf} (s : SOk σ δ c) (e : Ext c c') : SOk σ δ c' :=
  ⟨s.len, fun i rv h => let ⟨v, h1, h2⟩ := s.get i rv h; ⟨v, h1, h2.mono e⟩⟩
theorem SOk.set {σ : L2.St} {δ : Env} {c : Cf} (s : SOk σ δ c) {rv : RV} {v : V} (i : Nat) (r : RepRV c rv v) : SOk (σ.set i (some v)) (δ.set i (some rv)) c := by
  refine ⟨by rw [List.length_set, List.length_set, s.len], fun j x h => ?_⟩
  by_cases e : j = i
  · subst e
    rw [List.getElem?_set_self'] at h ⊢
    cases q : δ[j]? with
    | none => rw [q] at h; simp at h
    | some z =>
      rw [q] at h
      have hx : x = rv := by simpa using h.symm
      subst hx
      have lt : j < σ.length := by rw [s.len]; exact (List.getElem?_eq_some_iff.mp q).1
      rw [List.getElem?_eq_getElem lt]
      exact ⟨v, rfl, r⟩
  · rw [List.getElem?_set_ne (Ne.symm e)] at h ⊢
    exact s.get j x h

/-! ### readings -/
def RdE (G : Gh) (t : TE) (F : Env → M RV) : Prop := ∀ (c : Cf) (σ : L2.St) (δ : Env) (Q : VK), SOk σ δ c → WOk c → wpM (F δ) c.W (QV c Q) (QE G c) → t σ c.H Q
def RdT (G : Gh) (t : TT) (F : Env → M Bool) : Prop := ∀ (c : Cf) (σ : L2.St) (δ : Env) (Q : Bool → Hp → Prop), SOk σ δ c → WOk c → wpM (F δ) c.W (QB c Q) (QE G c) → t σ c.H Q
def RdA (G : Gh) (t : TA) (F : Env → M (List RV)) : Prop := ∀ (c : Cf) (σ : L2.St) (δ : Env) (Q : List V → Hp → Prop), SOk σ δ c → WOk c → wpM (F δ) c.W (QA c Q) (QE G c) → t σ c.H Q
section
variable {ι : Type} {𝒳 : ι → Cx} {G : Gh}
def DE (𝒳 : ι → Cx) (G : Gh) (e : Expr) (F : Env → M RV) : Prop := ∃ t, (∀ i, PE (𝒳 i) e t) ∧ RdE G t F
def DT (𝒳 : ι → Cx) (G : Gh) (e : Expr) (F : Env → M Bool) : Prop := ∃ t, (∀ i, PT (𝒳 i) e t) ∧ RdT G t F
def DW (𝒳 : ι → Cx) (G : Gh) (e : Expr) (F : Env → M Bool) : Prop := ∃ t, (∀ i, PW (𝒳 i) e t) ∧ RdT G t F
def DA (𝒳 : ι → Cx) (G : Gh) (es : List Expr) (F : Env → M (List RV)) : Prop := ∃ t, (∀ i, PA (𝒳 i) es t) ∧ RdA G t F
/-- the contexts of a def's body and of what stands in it -/
structure Fam (𝒳 : ι → Cx) (G : Gh) (CX : CXT) (k : Nat) : Prop where
  K : ∀ i, (𝒳 i).K = G.K
  calm : ∀ i, (𝒳 i).calm = true
  room : ∀ i, Room k (𝒳 i).A
  pass : ∀ i, Passes CX (𝒳 i) G.Ex
variable {e a b : Expr} {Fa Fb : Env → M RV} {pos : Pos}
theorem DE.never : DE 𝒳 G e (fun _ => M.fail) := ⟨fun _ _ _ => False, fun _ => ⟨fun _ _ _ _ _ _ h => h.elim⟩, fun _ _ _ _ _ _ h => h.elim⟩
theorem de_int {i j pos} : DE 𝒳 G (.Constant (.int i) j pos) (fun _ => M.ret (.d (.int i))) := ⟨_, fun _ => pe_int, fun c σ δ Q s w h => QV.here (v := .d (.int i)) h w rfl⟩
theorem de_str {x j pos} : DE 𝒳 G (.Constant (.str x) j pos) (fun _ => M.ret (.d (.str x))) := ⟨_, fun _ => pe_str, fun c σ δ Q s w h => QV.here (v := .d (.str x)) h w rfl⟩
theorem de_bl {x j pos} : DE 𝒳 G (.Constant (.bool x) j pos) (fun _ => M.ret (.d (.bl x))) := ⟨_, fun _ => pe_bl, fun c σ δ Q s w h => QV.here (v := .d (.bl x)) h w rfl⟩
theorem de_non {j pos} : DE 𝒳 G (.Constant .none j pos) (fun _ => M.ret (.d .non)) := ⟨_, fun _ => pe_non, fun c σ δ Q s w h => QV.here (v := .d .non) h w rfl⟩
/-- a slot's value -/
def evVar (i : Nat) (δ : Env) : M RV := M.opt (δ[i]?.join)
theorem de_var (i : Nat) {x : Str} (hN : ∀ k, (𝒳 k).N[i]? = some x := by intro _; rfl) (hv : ∀ k, Vis (𝒳 k).env.scope x := by intro _; first | exact Or.inl rfl | exact Or.inr (Or.inl rfl) | exact Or.inr (Or.inr rfl)) (hd : (x == ("__debug__" : Str)) = false := by decide)
    (hcd : (x == ("__classdict__" : Str)) = false := by decide) : DE 𝒳 G (.Name x pos) (evVar i) := by
  refine ⟨_, fun k => pe_var (hN k) (hv k) hd hcd, fun c σ δ Q s w h => ?_⟩
  obtain ⟨rv, e, q⟩ := wpM_opt h
  have e2 : δ[i]? = some (some rv) := by
    cases z : δ[i]? with
    | none => rw [z] at e; simp at e
    | some y => rw [z] at e; simp at e; rw [e]
  obtain ⟨v, h1, h2⟩ := s.get i rv e2
  exact ⟨v, h1, q.here w h2⟩
/-! ### two operands -/
def OpD (G : Gh) (r : R2) (op : RV → RV → M RV) : Prop := ∀ (c : Cf) (x y : V) (u v : RV) (Q : VK), WOk c → RepRV c u x → RepRV c v y → wpM (op u v) c.W (QV c Q) (QE G c) → r x y c.H Q
def ev2 (op : RV → RV → M RV) (Fa Fb : Env → M RV) (δ : Env) : M RV := (Fa δ).bind fun u => (Fb δ).bind fun v => op u v
theorem RdE.two {ta tb : TE} {r : R2} {op : RV → RV → M RV} (ha : RdE G ta Fa) (hb : RdE G tb Fb) (hr : OpD G r op) : RdE G (tOp r ta tb) (ev2 op Fa Fb) := by
  intro c σ δ Q s w h
  refine ha c σ δ _ s w (wpM_mono (wpM_bind.mp h) (fun u W1 h1 x1 c1 hw e1 w1 r1 => ?_) fun _ _ q => q)
  subst hw
  refine hb c1 σ δ _ (s.mono e1) w1 (wpM_mono (wpM_bind.mp h1) (fun v W2 h2 x2 c2 hw e2 w2 r2 => ?_) fun _ _ q => q.mono e1)
  subst hw
  exact hr c2 x1 x2 u v Q w2 (r1.mono e2) r2 (wpM_mono h2 (fun _ _ q => (q.mono e1).mono e2) fun _ _ q => (q.mono e1).mono e2)
theorem OpD.or {r r' : R2} {op op' : RV → RV → M RV} (f : RV → RV → Bool) (h : OpD G r op) (h' : OpD G r' op') : OpD G (fun x y H Q => r x y H Q ∨ r' x y H Q) (fun u v => if f u v then op u v else op' u v) := by
  intro c x y u v Q w ru rv hq
  dsimp only at hq
  cases e : f u v with
  | true => rw [e] at hq; exact .inl (h c x y u v Q w ru rv hq)
  | false => rw [e] at hq; exact .inr (h' c x y u v Q w ru rv hq)
theorem de_bin {op : Operator} {r : R2} {f : RV → RV → M RV} (hp : ∀ i, OpR (𝒳 i) (binaryOp op) r) (hr : OpD G r f) (ha : DE 𝒳 G a Fa) (hb : DE 𝒳 G b Fb) : DE 𝒳 G (.BinOp a op b pos) (ev2 f Fa Fb) := by
  obtain ⟨ta, pa, ra⟩ := ha
  obtain ⟨tb, pb, rb⟩ := hb
  exact ⟨_, fun i => pe_op (hp i) (pa i) (pb i), ra.two rb hr⟩
theorem de_cmp {op : CmpOp} {r : R2} {f : RV → RV → M RV} (hp : ∀ i, OpR (𝒳 i) (compareOp op) r) (hr : OpD G r f) (ha : DE 𝒳 G a Fa) (hb : DE 𝒳 G b Fb) (hm : behindInMarks op b = false) : DE 𝒳 G (.Compare a [op] [b] pos) (ev2 f Fa Fb) := by
  obtain ⟨ta, pa, ra⟩ := ha
  obtain ⟨tb, pb, rb⟩ := hb
  exact ⟨_, fun i => pe_cmpR (hp i) (pa i) (pb i) hm, ra.two rb hr⟩
/-- a value that is True or False -/
def asB : RV → M Bool
  | .d (.bl b) => M.ret b
  | _ => M.fail
def evB (F : Env → M RV) (δ : Env) : M Bool := (F δ).bind asB
theorem asB_ok {v : RV} {W : Wd} {Q : Bool → Wd → Prop} {E : DX → Wd → Prop} (h : wpM (asB v) W Q E) : ∃ b, v = .d (.bl b) ∧ Q b W := by
  cases v with
  | r l => exact h.elim
  | d x => cases x <;> first | exact ⟨_, rfl, h⟩ | exact h.elim
theorem RdE.test {t : TE} {F : Env → M RV} (h : RdE G t F) : RdT G (tTest t) (evB F) := by
  intro c σ δ Q s w hq
  refine h c σ δ _ s w (wpM_mono (wpM_bind.mp hq) (fun u W1 h1 x1 c1 hw e1 w1 r1 => ?_) fun _ _ q => q)
  obtain ⟨b, rfl, q⟩ := asB_ok h1
  exact ⟨b, r1, q c1 hw e1 w1⟩
theorem dt_cmp {op : CmpOp} {r : R2} {f : RV → RV → M RV} (hp : ∀ i, OpR (𝒳 i) (compareOp op) r) (hr : OpD G r f) (ha : DE 𝒳 G a Fa) (hb : DE 𝒳 G b Fb) (hm : behindInMarks op b = false) : DT 𝒳 G (.Compare a [op] [b] pos) (evB (ev2 f Fa Fb)) := by
  obtain ⟨ta, pa, ra⟩ := ha
  obtain ⟨tb, pb, rb⟩ := hb
  exact ⟨_, fun i => pt_cmpR (hp i) (pa i) (pb i) hm, (ra.two rb hr).test⟩
theorem dt_val {F : Env → M RV} (h : DE 𝒳 G e F) (he : ∀ i, ∀ whole, isTrue e (𝒳 i).env whole = (do let v ← whole; standAt e.pos; holding [v] (truthy v)) := by intro _ _; rfl) : DT 𝒳 G e (evB F) := by
  obtain ⟨t, p, r⟩ := h
  exact ⟨_, fun i => pt_val (p i) (he i), r.test⟩
/-! ### and, or, not -/
variable {Ta Tb : Env → M Bool} {rest : List Expr}
def evAnd (Fa Fb : Env → M RV) (δ : Env) : M RV := (Fa δ).bind fun u => (asB u).bind fun c => if c then Fb δ else M.ret (.d (.bl false))
def evOr (Fa Fb : Env → M RV) (δ : Env) : M RV := (Fa δ).bind fun u => (asB u).bind fun c => if c then M.ret (.d (.bl true)) else Fb δ
def evNot (Fa : Env → M RV) (δ : Env) : M RV := (Fa δ).bind fun u => (asB u).bind fun c => M.ret (.d (.bl !c))
theorem de_one {op} (h : DE 𝒳 G a Fa) : DE 𝒳 G (.BoolOp op [a] pos) Fa := let ⟨_, p, r⟩ := h; ⟨_, fun i => pe_one (p i), r⟩
theorem de_and (ha : DE 𝒳 G a Fa) (hb : DE 𝒳 G (.BoolOp .And (b :: rest) pos) Fb) : DE 𝒳 G (.BoolOp .And (a :: b :: rest) pos) (evAnd Fa Fb) := by
  obtain ⟨ta, pa, ra⟩ := ha
  obtain ⟨tb, pb, rb⟩ := hb
  refine ⟨_, fun i => pe_and (pa i) (pb i), fun c σ δ Q s w hq => ?_⟩
  refine ra c σ δ _ s w (wpM_mono (wpM_bind.mp hq) (fun u W1 h1 x1 c1 hw e1 w1 r1 => ?_) fun _ _ q => q)
  subst hw
  obtain ⟨k, rfl, q⟩ := asB_ok (wpM_bind.mp h1)
  refine ⟨k, r1, ?_⟩
  cases k with
  | true => exact rb c1 σ δ Q (s.mono e1) w1 (wpM_mono q (fun _ _ q => q.mono e1) fun _ _ q => q.mono e1)
  | false => exact QV.here (v := .d (.bl false)) (QV.mono e1 q) w1 rfl
theorem de_or (ha : DE 𝒳 G a Fa) (hb : DE 𝒳 G (.BoolOp .Or (b :: rest) pos) Fb) : DE 𝒳 G (.BoolOp .Or (a :: b :: rest) pos) (evOr Fa Fb) := by
  obtain ⟨ta, pa, ra⟩ := ha
  obtain ⟨tb, pb, rb⟩ := hb
  refine ⟨_, fun i => pe_or (pa i) (pb i), fun c σ δ Q s w hq => ?_⟩
  refine ra c σ δ _ s w (wpM_mono (wpM_bind.mp hq) (fun u W1 h1 x1 c1 hw e1 w1 r1 => ?_) fun _ _ q => q)
  subst hw
  obtain ⟨k, rfl, q⟩ := asB_ok (wpM_bind.mp h1)
  refine ⟨k, r1, ?_⟩
  cases k with
  | true => exact QV.here (v := .d (.bl true)) (QV.mono e1 q) w1 rfl
  | false => exact rb c1 σ δ Q (s.mono e1) w1 (wpM_mono q (fun _ _ q => q.mono e1) fun _ _ q => q.mono e1)
theorem de_not (ha : DE 𝒳 G a Fa) : DE 𝒳 G (.UnaryOp .Not a pos) (evNot Fa) := by
  obtain ⟨ta, pa, ra⟩ := ha
  refine ⟨_, fun i => pe_not (pa i), fun c σ δ Q s w hq => ?_⟩
  refine ra c σ δ _ s w (wpM_mono (wpM_bind.mp hq) (fun u W1 h1 x1 c1 hw e1 w1 r1 => ?_) fun _ _ q => q)
  subst hw
  obtain ⟨k, rfl, q⟩ := asB_ok (wpM_bind.mp h1)
  exact ⟨k, r1, QV.here (v := .d (.bl !k)) (QV.mono e1 q) w1 rfl⟩
def evAndT (Ta Tb : Env → M Bool) (δ : Env) : M Bool := (Ta δ).bind fun c => if c then Tb δ else M.ret false
def evOrT (Ta Tb : Env → M Bool) (δ : Env) : M Bool := (Ta δ).bind fun c => if c then M.ret true else Tb δ
def evNotT (Ta : Env → M Bool) (δ : Env) : M Bool := (Ta δ).bind fun c => M.ret !c
theorem DW.t (h : DW 𝒳 G e Ta) : DT 𝒳 G e Ta := let ⟨_, p, r⟩ := h; ⟨_, fun i => (p i).pt, r⟩
theorem dw_and1 (h : DT 𝒳 G a Ta) : DW 𝒳 G (.BoolOp .And [a] pos) Ta := let ⟨_, p, r⟩ := h; ⟨_, fun i => pw_and1 (p i), r⟩
theorem dw_or1 (h : DT 𝒳 G a Ta) : DW 𝒳 G (.BoolOp .Or [a] pos) Ta := let ⟨_, p, r⟩ := h; ⟨_, fun i => pw_or1 (p i), r⟩
theorem dw_and (ha : DT 𝒳 G a Ta) (hb : DW 𝒳 G (.BoolOp .And (b :: rest) pos) Tb) : DW 𝒳 G (.BoolOp .And (a :: b :: rest) pos) (evAndT Ta Tb) := by
  obtain ⟨ta, pa, ra⟩ := ha
  obtain ⟨tb, pb, rb⟩ := hb
  refine ⟨_, fun i => pw_and (pa i) (pb i), fun c σ δ Q s w hq => ?_⟩
  refine ra c σ δ _ s w (wpM_mono (wpM_bind.mp hq) (fun k W1 h1 c1 hw e1 w1 => ?_) fun _ _ q => q)
  subst hw
  cases k with
  | true => exact rb c1 σ δ Q (s.mono e1) w1 (wpM_mono h1 (fun _ _ q => q.mono e1) fun _ _ q => q.mono e1)
  | false => exact h1 c1 rfl e1 w1
theorem dw_or (ha : DT 𝒳 G a Ta) (hb : DW 𝒳 G (.BoolOp .Or (b :: rest) pos) Tb) : DW 𝒳 G (.BoolOp .Or (a :: b :: rest) pos) (evOrT Ta Tb) := by
  obtain ⟨ta, pa, ra⟩ := ha
  obtain ⟨tb, pb, rb⟩ := hb
  refine ⟨_, fun i => pw_or (pa i) (pb i), fun c σ δ Q s w hq => ?_⟩
  refine ra c σ δ _ s w (wpM_mono (wpM_bind.mp hq) (fun k W1 h1 c1 hw e1 w1 => ?_) fun _ _ q => q)
  subst hw
  cases k with
  | true => exact h1 c1 rfl e1 w1
  | false => exact rb c1 σ δ Q (s.mono e1) w1 (wpM_mono h1 (fun _ _ q => q.mono e1) fun _ _ q => q.mono e1)
theorem dt_not (ha : DT 𝒳 G a Ta) : DT 𝒳 G (.UnaryOp .Not a pos) (evNotT Ta) := by
  obtain ⟨ta, pa, ra⟩ := ha
  refine ⟨_, fun i => pt_not (pa i), fun c σ δ Q s w hq => ?_⟩
  refine ra c σ δ _ s w (wpM_mono (wpM_bind.mp hq) (fun k W1 h1 c1 hw e1 w1 => ?_) fun _ _ q => q)
  exact h1 c1 hw e1 w1
/-- a if t else b -/
def evIf (T : Env → M Bool) (Fa Fb : Env → M RV) (δ : Env) : M RV := (T δ).bind fun c => if c then Fa δ else Fb δ
theorem de_if {t : Expr} (ht : DT 𝒳 G t Ta) (ha : DE 𝒳 G a Fa) (hb : DE 𝒳 G b Fb) : DE 𝒳 G (.IfExp t a b pos) (evIf Ta Fa Fb) := by
  obtain ⟨tt, pt, rt⟩ := ht
  obtain ⟨ta, pa, ra⟩ := ha
  obtain ⟨tb, pb, rb⟩ := hb
  refine ⟨_, fun i => pe_ifExp (pt i) (pa i) (pb i), fun c σ δ Q s w hq => ?_⟩
  refine rt c σ δ _ s w (wpM_mono (wpM_bind.mp hq) (fun k W1 h1 c1 hw e1 w1 => ?_) fun _ _ q => q)
  subst hw
  cases k with
  | true => exact ra c1 σ δ Q (s.mono e1) w1 (wpM_mono h1 (fun _ _ q => q.mono e1) fun _ _ q => q.mono e1)
  | false => exact rb c1 σ δ Q (s.mono e1) w1 (wpM_mono h1 (fun _ _ q => q.mono e1) fun _ _ q => q.mono e1)
/-! ### argument lists -/
def evNil (_ : Env) : M (List RV) := M.ret []
def evCons (F : Env → M RV) (R : Env → M (List RV)) (δ : Env) : M (List RV) := (F δ).bind fun v => (R δ).bind fun vs => M.ret (v :: vs)
theorem da_nil : DA 𝒳 G [] evNil := ⟨_, fun _ => pa_nil, fun c σ δ Q s w h => h [] c rfl (Ext.refl c) w .nil⟩
theorem da_cons {es : List Expr} {R : Env → M (List RV)} (ha : DE 𝒳 G e Fa) (hr : DA 𝒳 G es R) (hs : ∀ i, starEach (e :: es) (𝒳 i).env = (false, eval e (𝒳 i).env) :: starEach es (𝒳 i).env := by intro _; rfl) : DA 𝒳 G (e :: es) (evCons Fa R) := by
  obtain ⟨ta, pa, ra⟩ := ha
  obtain ⟨tr, pr, rr⟩ := hr
  refine ⟨_, fun i => pa_cons (pa i) (pr i) (hs i), fun c σ δ Q s w hq => ?_⟩
  refine ra c σ δ _ s w (wpM_mono (wpM_bind.mp hq) (fun u W1 h1 x1 c1 hw e1 w1 r1 => ?_) fun _ _ q => q)
  subst hw
  refine rr c1 σ δ _ (s.mono e1) w1 (wpM_mono (wpM_bind.mp h1) (fun vs W2 h2 xs c2 hw e2 w2 r2 => ?_) fun _ _ q => q.mono e1)
  subst hw
  exact h2 (x1 :: xs) c2 rfl (e1.trans e2) w2 (.cons (r1.mono e2) r2)
end
end DL
set_option Elab.async false
set_option linter.all false
set_option maxRecDepth 100000
set_option maxHeartbeats 4000000
/-! DL3: operations on values. -/
namespace DL
open PySem PySem.Spec PyProof.Rows L2
def M.guard (p : Prop) [Decidable p] : M Unit := fun W => if p then some (.ok (), W) else none
theorem wpM_guard {p : Prop} [Decidable p] {W : Wd} {Q : Unit → Wd → Prop} {E : DX → Wd → Prop} (h : wpM (M.guard p) W Q E) : p ∧ Q () W := by
  unfold wpM M.guard at h
  by_cases e : p
  · rw [if_pos e] at h; exact ⟨e, h⟩
  · rw [if_neg e] at h; exact h.elim
def M.look {α : Type} (f : Wd → Option α) : M α := fun W => match f W with | some a => some (.ok a, W) | none => none
theorem wpM_look {α : Type} {f : Wd → Option α} {W : Wd} {Q : α → Wd → Prop} {E : DX → Wd → Prop} (h : wpM (M.look f) W Q E) : ∃ a, f W = some a ∧ Q a W := by
  unfold wpM M.look at h
  cases e : f W with
  | none => rw [e] at h; exact h.elim
  | some a => rw [e] at h; exact ⟨a, rfl, h⟩
/-! ### pure things -/
def pureL : List RV → Option (List D)
  | [] => some []
  | .d x :: r => (pureL r).map (x :: ·)
  | .r _ :: _ => none
section
variable {G : Gh} {c : Cf}
theorem pureL_rep : ∀ {rvs : List RV} {ds : List D} {vs : List V}, pureL rvs = some ds → RepVs c rvs vs → RepL c ds vs
  | [], _, _, h, .nil => by cases h; exact rfl
  | .d x :: r, ds, _, h, .cons (b := v) (l₂ := vs) q t => by
    cases e : pureL r with
    | none => simp [pureL, e] at h
    | some ds' =>
      simp [pureL, e] at h
      subst h
      exact ⟨v, vs, rfl, q, pureL_rep e t⟩
  | .r _ :: _, _, _, h, _ => by simp [pureL] at h
theorem repL_vs : ∀ {ds : List D} {vs : List V}, RepL c ds vs → RepVs c (ds.map RV.d) vs
  | [], _, h => by cases h; exact .nil
  | _ :: _, _, h => by
    obtain ⟨v, r, rfl, h1, h2⟩ := h
    exact .cons h1 (repL_vs h2)
theorem repL_len : ∀ {ds : List D} {vs : List V}, RepL c ds vs → ds.length = vs.length
  | [], _, h => by cases h; rfl
  | _ :: _, _, h => by
    obtain ⟨v, r, rfl, _, h2⟩ := h
    rw [List.length_cons, List.length_cons, repL_len h2]
theorem repL_get : ∀ {ds : List D} {vs : List V} {i : Nat} {x : D}, RepL c ds vs → ds[i]? = some x → ∃ v, vs[i]? = some v ∧ Rep c x v
  | [], _, _, _, _, h => by simp at h
  | y :: r, _, i, x, q, h => by
    obtain ⟨v, r', rfl, h1, h2⟩ := q
    cases i with
    | zero => have e : y = x := by simpa using h
              subst e; exact ⟨v, rfl, h1⟩
    | succ i =>
      obtain ⟨z, h3, h4⟩ := repL_get (i := i) h2 (by simpa using h)
      exact ⟨z, by simpa using h3, h4⟩
theorem paired_get {α β : Type} {F : α → β → Prop} : ∀ {l1 : List α} {l2 : List β} {i : Nat} {x : α}, Paired F l1 l2 → l1[i]? = some x → ∃ y, l2[i]? = some y ∧ F x y
  | _, _, _, _, .nil, h => by simp at h
  | _, _, 0, _, .cons r _, h => by simp at h; subst h; exact ⟨_, rfl, r⟩
  | _, _, i + 1, _, .cons _ t, h => by
    obtain ⟨y, h1, h2⟩ := paired_get (i := i) t (by simpa using h)
    exact ⟨y, by simpa using h1, h2⟩
theorem paired_app {α β : Type} {F : α → β → Prop} : ∀ {l1 m1 : List α} {l2 m2 : List β}, Paired F l1 l2 → Paired F m1 m2 → Paired F (l1 ++ m1) (l2 ++ m2)
  | _, _, _, _, .nil, s => s
  | _, _, _, _, .cons r t, s => .cons r (paired_app t s)
theorem paired_take {α β : Type} {F : α → β → Prop} : ∀ {l1 : List α} {l2 : List β} (n : Nat), Paired F l1 l2 → Paired F (l1.take n) (l2.take n)
  | _, _, 0, _ => .nil
  | _, _, _ + 1, .nil => .nil
  | _, _, n + 1, .cons r t => .cons r (paired_take n t)
theorem paired_drop {α β : Type} {F : α → β → Prop} : ∀ {l1 : List α} {l2 : List β} (n : Nat), Paired F l1 l2 → Paired F (l1.drop n) (l2.drop n)
  | _, _, 0, r => r
  | _, _, _ + 1, .nil => .nil
  | _, _, n + 1, .cons _ t => paired_drop n t
theorem paired_set {α β : Type} {F : α → β → Prop} {x : α} {y : β} (r : F x y) : ∀ {l1 : List α} {l2 : List β} (i : Nat), Paired F l1 l2 → Paired F (l1.set i x) (l2.set i y)
  | _, _, _, .nil => .nil
  | _, _, 0, .cons _ t => .cons r t
  | _, _, i + 1, .cons q t => .cons q (paired_set r i t)
theorem paired_erase {α β : Type} {F : α → β → Prop} : ∀ {l1 : List α} {l2 : List β} (i : Nat), Paired F l1 l2 → Paired F (l1.eraseIdx i) (l2.eraseIdx i)
  | _, _, _, .nil => .nil
  | _, _, 0, .cons _ t => t
  | _, _, i + 1, .cons q t => .cons q (paired_erase i t)
end
/-! ### a label made pure -/
def pureF : List (Str × RV) → Option (List (Str × D))
  | [] => some []
  | (f, .d x) :: r => (pureF r).map ((f, x) :: ·)
  | (_, .r _) :: _ => none
theorem pureF_rep {c : Cf} : ∀ {rvs : List (Str × RV)} {ds : List (Str × D)} {vs : List (Str × V)}, pureF rvs = some ds → RepFs c rvs vs → RepN c ds vs
  | [], _, _, h, .nil => by cases h; exact rfl
  | (f, .d x) :: r, ds, _, h, .cons (b := v) (l₂ := vs) q t => by
    cases e : pureF r with
    | none => simp [pureF, e] at h
    | some ds' =>
      simp [pureF, e] at h
      subst h
      obtain ⟨g, v⟩ := v
      obtain ⟨q1, q2⟩ := q
      dsimp only at q1 q2
      subst q1
      exact ⟨v, vs, rfl, q2, pureF_rep e t⟩
  | (_, .r _) :: _, _, _, h, _ => by simp [pureF] at h
def pureM : MO → Option D
  | .fz x => some x
  | .lst xs => (pureL xs).map .lst
  | .dK kvs => some (.dK kvs)
  | .dT kvs => some (.dT kvs)
  | .ins C fs => (pureF fs).map (.obj C)
  | .tbl _ _ => none
def isFz : MO → Bool
  | .fz _ => true
  | _ => false
def toD : RV → M D
  | .d x => M.ret x
  | .r l => fun W => match W[l]? with
    | some m => match pureM m with
      | some d => some (.ok d, if isFz m then W else W.set l (.fz d))
      | none => none
    | none => none
section
variable {G : Gh} {c : Cf}
theorem toD_ok {v : RV} {x : V} {Q : D → Wd → Prop} {E : DX → Wd → Prop} (w : WOk c) (r : RepRV c v x) (h : wpM (toD v) c.W Q E) : ∃ c1 d, c1.H = c.H ∧ Ext c c1 ∧ WOk c1 ∧ Rep c1 d x ∧ Q d c1.W := by
  cases v with
  | d y => exact ⟨c, y, rfl, Ext.refl c, w, r, h⟩
  | r l =>
    obtain ⟨rfl, hl⟩ := r
    cases e : c.W[l]? with
    | none => simp [wpM, toD, e] at h
    | some o =>
      have ob := w.obj l o e
      cases e2 : pureM o with
      | none => simp [wpM, toD, e, e2] at h
      | some d =>
        simp only [wpM, toD, e, e2] at h
        cases o with
        | fz y =>
          simp [pureM] at e2
          subst e2
          exact ⟨c, y, rfl, Ext.refl c, w, ob, h⟩
        | lst xs =>
          simp [pureM] at e2
          obtain ⟨ds, e2, rfl⟩ := e2
          obtain ⟨vs, h1, h2⟩ := ob
          have ex : Ext c (c.fz l (.lst ds)) := Ext.fz
          have rr : Rep (c.fz l (.lst ds)) (.lst ds) (.ref (c.ren l)) := ⟨c.ren l, vs, rfl, h1, w.fzAv e trivial, RepL.mono ex _ _ (pureL_rep e2 h2)⟩
          exact ⟨c.fz l (.lst ds), .lst ds, rfl, ex, w.fz e trivial rr, rr, h⟩
        | dK ds =>
          simp [pureM] at e2
          subst e2
          obtain ⟨vs, h1, h2⟩ := ob
          have ex : Ext c (c.fz l (.dK ds)) := Ext.fz
          have rr : Rep (c.fz l (.dK ds)) (.dK ds) (.ref (c.ren l)) := ⟨c.ren l, vs, rfl, .inl h1, w.fzAv e trivial, RepK.monoW ex.wk _ _ h2⟩
          exact ⟨c.fz l (.dK ds), .dK ds, rfl, ex, w.fz e trivial rr, rr, h⟩
        | dT ds =>
          simp [pureM] at e2
          subst e2
          obtain ⟨vs, h1, h2⟩ := ob
          have ex : Ext c (c.fz l (.dT ds)) := Ext.fz
          have rr : Rep (c.fz l (.dT ds)) (.dT ds) (.ref (c.ren l)) := ⟨c.ren l, vs, rfl, .inl h1, w.fzAv e trivial, RepT.monoW ex.wk _ _ h2⟩
          exact ⟨c.fz l (.dT ds), .dT ds, rfl, ex, w.fz e trivial rr, rr, h⟩
        | tbl P q => simp [pureM] at e2
        | ins C fs =>
          simp [pureM] at e2
          obtain ⟨ds, e2, rfl⟩ := e2
          obtain ⟨dx, vs, h1, h2⟩ := ob
          have ex : Ext c (c.fz l (.obj C ds)) := Ext.fz
          have rr : Rep (c.fz l (.obj C ds)) (.obj C ds) (.ref (c.ren l)) := ⟨c.ren l, dx, vs, rfl, h1, w.fzAv e trivial, RepN.monoW ex.wk _ _ (pureF_rep e2 h2)⟩
          exact ⟨c.fz l (.obj C ds), .obj C ds, rfl, ex, w.fz e trivial rr, rr, h⟩
end
def toDs : List RV → M (List D)
  | [] => M.ret []
  | v :: r => (toD v).bind fun x => (toDs r).bind fun xs => M.ret (x :: xs)
section
variable {G : Gh} {c : Cf}
theorem toDs_ok : ∀ {rvs : List RV} {c : Cf} {vs : List V} {Q : List D → Wd → Prop} {E : DX → Wd → Prop}, WOk c → RepVs c rvs vs → wpM (toDs rvs) c.W Q E → ∃ c1 ds, c1.H = c.H ∧ Ext c c1 ∧ WOk c1 ∧ RepL c1 ds vs ∧ Q ds c1.W
  | [], c, _, _, _, w, .nil, h => ⟨c, [], rfl, Ext.refl c, w, rfl, h⟩
  | v :: rvs, c, _, _, _, w, .cons (b := x) (l₂ := vs) r t, h => by
    obtain ⟨c1, d, h1, e1, w1, r1, q1⟩ := toD_ok w r (wpM_bind.mp h)
    obtain ⟨c2, ds, h2, e2, w2, r2, q2⟩ := toDs_ok w1 (RepVs.mono e1 t) (wpM_bind.mp q1)
    exact ⟨c2, d :: ds, h2.trans h1, e1.trans e2, w2, ⟨x, vs, rfl, Rep.mono e2 _ _ r1, r2⟩, q2⟩
/-! ### a new list, pure or at a label -/
def newL (mk : Bool) (rvs : List RV) : M RV :=
  if mk then fun W => some (.ok (.r W.length), W ++ [.lst rvs]) else (toDs rvs).bind fun ds => M.ret (.d (.lst ds))
theorem newL_ok {mk : Bool} {rvs : List RV} {vs : List V} {Q : VK} {E : DX → Wd → Prop} (w : WOk c) (r : RepVs c rvs vs) (h : wpM (newL mk rvs) c.W (QV c Q) E) : ∀ p, c.H p = none → Q (.ref p) (upd c.H p (.lst vs)) := by
  intro p hp
  cases mk with
  | true =>
    have e : Ext c (c.new p (.lst vs) (.lst rvs)) := Ext.new hp
    refine h (.ref p) (c.new p (.lst vs) (.lst rvs)) rfl e (w.new hp ⟨vs, upd_same, RepVs.mono e r⟩) ⟨?_, ?_⟩
    · rw [ren_last]
    · show c.W.length < (c.W ++ [_]).length
      rw [List.length_append, List.length_singleton]; omega
  | false =>
    obtain ⟨c1, ds, h1, e1, w1, r1, q1⟩ := toDs_ok w r (wpM_bind.mp h)
    have hp1 : c1.H p = none := by rw [h1]; exact hp
    obtain ⟨e2, w2⟩ := w1.lay (o := .lst vs) hp1
    have := q1 (.ref p) (c1.lay p (.lst vs)) rfl (e1.trans e2) w2 ⟨p, vs, rfl, upd_same, w1.layAv hp1, RepL.mono e2 _ _ r1⟩
    rw [← h1]; exact this
/-- a new tuple -/
def newT (rvs : List RV) : M RV := (toDs rvs).bind fun ds => M.ret (.d (.tup ds))
theorem newT_ok {rvs : List RV} {vs : List V} {Q : VK} {E : DX → Wd → Prop} (w : WOk c) (r : RepVs c rvs vs) (h : wpM (newT rvs) c.W (QV c Q) E) : ∀ p, c.H p = none → Q (.ref p) (upd c.H p (.tup vs)) := by
  intro p hp
  obtain ⟨c1, ds, h1, e1, w1, r1, q1⟩ := toDs_ok w r (wpM_bind.mp h)
  have hp1 : c1.H p = none := by rw [h1]; exact hp
  obtain ⟨e2, w2⟩ := w1.lay (o := .tup vs) hp1
  have := q1 (.ref p) (c1.lay p (.tup vs)) rfl (e1.trans e2) w2 ⟨p, vs, rfl, upd_same, w1.layAv hp1, RepL.mono e2 _ _ r1⟩
  rw [← h1]; exact this
/-! ### looks -/
/-- the items of a list or a tuple; whether it is a tuple -/
def seqOf (W : Wd) : RV → Option (Bool × List RV)
  | .d (.lst xs) => some (false, xs.map .d)
  | .d (.tup xs) => some (true, xs.map .d)
  | .d _ => none
  | .r l => match W[l]? with
    | some (.lst xs) => some (false, xs)
    | some (.fz (.lst xs)) => some (false, xs.map .d)
    | some (.fz (.tup xs)) => some (true, xs.map .d)
    | _ => none
theorem seqOf_ok {v : RV} {x : V} {t : Bool} {xs : List RV} (w : WOk c) (r : RepRV c v x) (h : seqOf c.W v = some (t, xs)) : ∃ a vs, x = .ref a ∧ c.H a = some (if t then .tup vs else .lst vs) ∧ RepVs c xs vs := by
  have dat : ∀ (y : D) (x : V), Rep c y x → seqOf c.W (.d y) = some (t, xs) → ∃ a vs, x = .ref a ∧ c.H a = some (if t then .tup vs else .lst vs) ∧ RepVs c xs vs := fun y x r h => by
    cases y <;> simp [seqOf] at h
    case lst ys =>
      obtain ⟨rfl, rfl⟩ := h
      obtain ⟨a, vs, rfl, h1, _, h2⟩ := r
      exact ⟨a, vs, rfl, h1, repL_vs h2⟩
    case tup ys =>
      obtain ⟨rfl, rfl⟩ := h
      obtain ⟨a, vs, rfl, h1, _, h2⟩ := r
      exact ⟨a, vs, rfl, h1, repL_vs h2⟩
  cases v with
  | d y => exact dat y x r h
  | r l =>
    obtain ⟨rfl, hl⟩ := r
    simp only [seqOf] at h
    cases e : c.W[l]? with
    | none => rw [e] at h; simp at h
    | some o =>
      rw [e] at h
      have ob := w.obj l o e
      cases o with
      | lst ys =>
        simp at h
        obtain ⟨rfl, rfl⟩ := h
        obtain ⟨vs, h1, h2⟩ := ob
        exact ⟨_, vs, rfl, h1, h2⟩
      | fz y =>
        refine dat y _ ob ?_
        cases y <;> simp at h <;> simp [seqOf, h]
      | dK _ => simp at h
      | dT _ => simp at h
      | ins _ _ => simp at h
      | tbl _ _ => simp at h
/-- data that may be looked at, labels read through -/
def peek (W : Wd) : RV → Option D
  | .d x => some x
  | .r l => match W[l]? with
    | some (.lst xs) => (pureL xs).map .lst
    | some (.fz x) => some x
    | _ => none
def toPy : D → Option PyData
  | .non => some .none
  | .bl b => some (.bool b)
  | .int i => some (.int i)
  | .str s => some (.str s)
  | .lst xs => (toPyL xs).map .list
  | .tup xs => (toPyL xs).map .tuple
  | _ => none
where
  toPyL : List D → Option (List PyData)
  | [] => some []
  | x :: xs => match toPy x, toPyL xs with
    | some a, some b => some (a :: b)
    | _, _ => none
mutual
theorem toPy_ok : ∀ (x : D) (v : V) (p : PyData), Rep c x v → toPy x = some p → Dp G.K c.H v p
  | .non, v, p, r, h => by cases r; simp [toPy] at h; subst h; exact .non
  | .bl b, v, p, r, h => by cases r; simp [toPy] at h; subst h; exact .bl b
  | .int i, v, p, r, h => by cases r; simp [toPy] at h; subst h; exact .int i
  | .str s, v, p, r, h => by cases r; simp [toPy] at h; subst h; exact .str s
  | .lst xs, v, p, r, h => by
    obtain ⟨a, vs, rfl, h1, _, h2⟩ := r
    simp only [toPy, Option.map_eq_some_iff] at h
    obtain ⟨ps, e, rfl⟩ := h
    exact .lst (SqL.of h1) (toPyL_ok xs vs ps h2 e)
  | .tup xs, v, p, r, h => by
    obtain ⟨a, vs, rfl, h1, _, h2⟩ := r
    simp only [toPy, Option.map_eq_some_iff] at h
    obtain ⟨ps, e, rfl⟩ := h
    exact .tup (SqT.of h1) (toPyL_ok xs vs ps h2 e)
  | .ty _, _, _, _, h => by simp [toPy] at h
  | .frz _, _, _, _, h => by simp [toPy] at h
  | .dK _, _, _, _, h => by simp [toPy] at h
  | .dT _, _, _, _, h => by simp [toPy] at h
  | .obj _ _, _, _, _, h => by simp [toPy] at h
  | .lam _ _, _, _, _, h => by simp [toPy] at h
  | .exc _ _ _ _ _, _, _, _, h => by simp [toPy] at h
theorem toPyL_ok : ∀ (xs : List D) (vs : List V) (ps : List PyData), RepL c xs vs → toPy.toPyL xs = some ps → DpAll G.K c.H vs ps
  | [], _, ps, r, h => by cases r; simp [toPy.toPyL] at h; subst h; exact .nil
  | x :: xs, _, ps, r, h => by
    obtain ⟨v, r', rfl, h1, h2⟩ := r
    simp only [toPy.toPyL] at h
    cases e1 : toPy x with
    | none => rw [e1] at h; simp at h
    | some a =>
      cases e2 : toPy.toPyL xs with
      | none => rw [e1, e2] at h; simp at h
      | some b =>
        rw [e1, e2] at h
        simp at h
        subst h
        exact .cons (toPy_ok x v a h1 e1) (toPyL_ok xs r' b h2 e2)
end
theorem peek_ok {v : RV} {x : V} {d : D} {p : PyData} (w : WOk c) (r : RepRV c v x) (h : peek c.W v = some d) (hp : toPy d = some p) : Dp G.K c.H x p := by
  cases v with
  | d y =>
    simp [peek] at h
    subst h
    exact toPy_ok y x p r hp
  | r l =>
    obtain ⟨rfl, hl⟩ := r
    simp only [peek] at h
    cases e : c.W[l]? with
    | none => rw [e] at h; simp at h
    | some o =>
      rw [e] at h
      have ob := w.obj l o e
      cases o with
      | fz y => simp at h; subst h; exact toPy_ok y _ p ob hp
      | dK _ => simp at h
      | dT _ => simp at h
      | ins _ _ => simp at h
      | tbl _ _ => simp at h
      | lst xs =>
        simp at h
        obtain ⟨ds, e2, rfl⟩ := h
        obtain ⟨vs, h1, h2⟩ := ob
        simp only [toPy, Option.map_eq_some_iff] at hp
        obtain ⟨ps, e, rfl⟩ := hp
        exact .lst (SqL.of h1) (toPyL_ok ds vs ps (pureL_rep e2 h2) e)
end
end DL
set_option Elab.async false
set_option linter.all false
set_option maxRecDepth 100000
set_option maxHeartbeats 4000000
/-! DL4: operators, comparisons, subscripts, slices, displays. -/
namespace DL
open PySem PySem.Spec PyProof.Rows L2
instance {i j : Int} : Decidable (CMulW i j) := inferInstanceAs (Decidable (_ < _))
/-- // by a divisor that isn't 0, of any sign -/
def CDivG (_ j : Int) : Prop := j ≠ 0 ∧ j.natAbs.log2 < 9000
theorem op_fdivG {X : Cx} : OpR X (binaryOp .FloorDiv) (rI CDivG fun i j => .int (i.fdiv j)) := opI fun i j _ _ _ _ _ hc q => floordiv_int hc.1 q (.inl (PyProof.noPylong_of_log2 hc.2))
instance {i j : Int} : Decidable (CDivG i j) := inferInstanceAs (Decidable (_ ∧ _))
instance {i j : Int} : Decidable (CDivW i j) := inferInstanceAs (Decidable (_ ∧ _))
instance {i j : Int} : Decidable (CPow i j) := inferInstanceAs (Decidable (_ ∧ _))
section
variable {G : Gh} {c : Cf}
/-! ### ints -/
def int2 (u v : RV) : Option (Int × Int) := match u, v with
  | .d (.int i), .d (.int j) => some (i, j)
  | _, _ => none
theorem int2_ok {u v : RV} {i j : Int} (h : int2 u v = some (i, j)) : u = .d (.int i) ∧ v = .d (.int j) := by
  cases u with
  | r l => simp [int2] at h
  | d x =>
    cases v with
    | r l => cases x <;> simp [int2] at h
    | d y => cases x <;> cases y <;> simp [int2] at h <;> exact ⟨by rw [h.1], by rw [h.2]⟩
def opI0 (g : Int → Int → D) (u v : RV) : M RV := (M.opt (int2 u v)).bind fun p => M.ret (.d (g p.1 p.2))
theorem opd_I0 {g : Int → Int → D} {gV : Int → Int → V} (hg : ∀ (c : Cf) i j, Rep c (g i j) (gV i j)) : OpD G (rI0 gV) (opI0 g) := by
  intro c x y u v Q w ru rv h
  obtain ⟨⟨i, j⟩, e, q⟩ := wpM_opt (wpM_bind.mp h)
  obtain ⟨rfl, rfl⟩ := int2_ok e
  exact ⟨i, j, ru, rv, QV.here (v := .d (g i j)) q w (hg c i j)⟩
def opIC (C : Int → Int → Prop) [∀ i j, Decidable (C i j)] (g : Int → Int → D) (u v : RV) : M RV := (M.opt (int2 u v)).bind fun p => (M.guard (C p.1 p.2)).bind fun _ => M.ret (.d (g p.1 p.2))
theorem opd_IC {C : Int → Int → Prop} [∀ i j, Decidable (C i j)] {g : Int → Int → D} {gV : Int → Int → V} (hg : ∀ (c : Cf) i j, Rep c (g i j) (gV i j)) : OpD G (rI C gV) (opIC C g) := by
  intro c x y u v Q w ru rv h
  obtain ⟨⟨i, j⟩, e, q⟩ := wpM_opt (wpM_bind.mp h)
  obtain ⟨rfl, rfl⟩ := int2_ok e
  obtain ⟨hc, q⟩ := wpM_guard (wpM_bind.mp q)
  exact ⟨i, j, ru, rv, hc, QV.here (v := .d (g i j)) q w (hg c i j)⟩
def isInt2 (u v : RV) : Bool := (int2 u v).isSome
/-! ### texts -/
def str2 (u v : RV) : Option (Str × Str) := match u, v with
  | .d (.str i), .d (.str j) => some (i, j)
  | _, _ => none
theorem str2_ok {u v : RV} {i j : Str} (h : str2 u v = some (i, j)) : u = .d (.str i) ∧ v = .d (.str j) := by
  cases u with
  | r l => simp [str2] at h
  | d x =>
    cases v with
    | r l => cases x <;> simp [str2] at h
    | d y => cases x <;> cases y <;> simp [str2] at h <;> exact ⟨by rw [h.1], by rw [h.2]⟩
def isStr2 (u v : RV) : Bool := (str2 u v).isSome
def opAddS (u v : RV) : M RV := (M.opt (str2 u v)).bind fun p => (M.guard (p.1.length + p.2.length ≤ sizeLine)).bind fun _ => M.ret (.d (.str (p.1 ++ p.2)))
theorem opd_addS : OpD G (fun x y H Q => ∃ i j, x = .str i ∧ y = .str j ∧ i.length + j.length ≤ sizeLine ∧ Q (.str (i ++ j)) H) opAddS := by
  intro c x y u v Q w ru rv h
  obtain ⟨⟨i, j⟩, e, q⟩ := wpM_opt (wpM_bind.mp h)
  obtain ⟨rfl, rfl⟩ := str2_ok e
  obtain ⟨hc, q⟩ := wpM_guard (wpM_bind.mp q)
  exact ⟨i, j, ru, rv, hc, QV.here (v := .d (.str (i ++ j))) q w rfl⟩
/-! ### lists, tuples -/
def opCat (mk : Bool) (u v : RV) : M RV := (M.look fun W => match seqOf W u, seqOf W v with | some (false, xs), some (false, ys) => some (xs, ys) | _, _ => none).bind fun p =>
  (M.guard (p.1.length + p.2.length ≤ sizeLine)).bind fun _ => newL mk (p.1 ++ p.2)
theorem paired_len {α β : Type} {F : α → β → Prop} {l1 : List α} {l2 : List β} (h : Paired F l1 l2) : l1.length = l2.length := Paired.length h
theorem opd_cat {mk : Bool} : OpD G rCat (opCat mk) := by
  intro c x y u v Q w ru rv h
  obtain ⟨⟨xs, ys⟩, e, q⟩ := wpM_look (wpM_bind.mp h)
  obtain ⟨hc, q⟩ := wpM_guard (wpM_bind.mp q)
  cases e1 : seqOf c.W u with
  | none => rw [e1] at e; simp at e
  | some p =>
    cases e2 : seqOf c.W v with
    | none => rw [e1, e2] at e; rcases p with ⟨_ | _, _⟩ <;> simp at e
    | some p2 =>
      rw [e1, e2] at e
      obtain ⟨b1, xs1⟩ := p
      obtain ⟨b2, ys1⟩ := p2
      cases b1 <;> cases b2 <;> simp at e
      obtain ⟨rfl, rfl⟩ := e
      obtain ⟨a, vs, rfl, h1, r1⟩ := seqOf_ok w ru e1
      obtain ⟨b, ws, rfl, h2, r2⟩ := seqOf_ok w rv e2
      refine ⟨a, b, vs, ws, rfl, rfl, h1, h2, ?_, newL_ok w (paired_app r1 r2) q⟩
      rw [← paired_len r1, ← paired_len r2]; exact hc
def opCatT (u v : RV) : M RV := (M.look fun W => match seqOf W u, seqOf W v with | some (true, xs), some (true, ys) => some (xs, ys) | _, _ => none).bind fun p =>
  (M.guard (p.1.length + p.2.length ≤ sizeLine ∧ p.1.isEmpty = false)).bind fun _ => if p.2.isEmpty then M.ret u else newT (p.1 ++ p.2)
theorem opd_catT : OpD G (rCatT G.K) opCatT := by
  intro c x y u v Q w ru rv h
  obtain ⟨⟨xs, ys⟩, e, q⟩ := wpM_look (wpM_bind.mp h)
  obtain ⟨⟨hc, hne⟩, q⟩ := wpM_guard (wpM_bind.mp q)
  cases e1 : seqOf c.W u with
  | none => rw [e1] at e; simp at e
  | some p =>
    cases e2 : seqOf c.W v with
    | none => rw [e1, e2] at e; rcases p with ⟨_ | _, _⟩ <;> simp at e
    | some p2 =>
      rw [e1, e2] at e
      obtain ⟨b1, xs1⟩ := p
      obtain ⟨b2, ys1⟩ := p2
      cases b1 <;> cases b2 <;> simp at e
      obtain ⟨rfl, rfl⟩ := e
      obtain ⟨a, vs, rfl, h1, r1⟩ := seqOf_ok w ru e1
      obtain ⟨b, ws, rfl, h2, r2⟩ := seqOf_ok w rv e2
      dsimp only at hc hne q
      refine ⟨a, b, vs, ws, rfl, rfl, SqT.of h1, SqT.of h2, ?_, ?_, ?_, ?_⟩
      · rintro rfl
        cases r1
        simp at hne
      · rw [← paired_len r1, ← paired_len r2]; exact hc
      · rintro rfl
        cases r2
        exact QV.here (v := u) q w ru
      · intro hy
        have : ys1.isEmpty = false := by
          cases r2 with
          | nil => exact absurd rfl hy
          | cons _ _ => rfl
        rw [this] at q
        exact newT_ok w (paired_app r1 r2) q
def opRep (mk : Bool) (u v : RV) : M RV := (M.look fun W => match seqOf W u, v with | some (false, xs), .d (.int k) => some (xs, k) | _, _ => none).bind fun p =>
  (M.guard (-(2 ^ 63) ≤ p.2 ∧ p.2 < 2 ^ 63 ∧ p.1.length * p.2.toNat ≤ sizeLine)).bind fun _ => newL mk (List.replicate p.2.toNat p.1).flatten
theorem paired_rep {α β : Type} {F : α → β → Prop} {l1 : List α} {l2 : List β} (h : Paired F l1 l2) : ∀ k : Nat, Paired F (List.replicate k l1).flatten (List.replicate k l2).flatten
  | 0 => .nil
  | k + 1 => by
    rw [List.replicate_succ, List.replicate_succ, List.flatten_cons, List.flatten_cons]
    exact paired_app h (paired_rep h k)
theorem opd_rep {mk : Bool} : OpD G rRep (opRep mk) := by
  intro c x y u v Q w ru rv h
  obtain ⟨⟨xs, k⟩, e, q⟩ := wpM_look (wpM_bind.mp h)
  obtain ⟨⟨hc1, hc2, hc3⟩, q⟩ := wpM_guard (wpM_bind.mp q)
  cases e1 : seqOf c.W u with
  | none => rw [e1] at e; simp at e
  | some p =>
    obtain ⟨b1, xs1⟩ := p
    rw [e1] at e
    cases b1 with
    | true => simp at e
    | false =>
      cases v with
      | r l => simp at e
      | d z =>
        cases z <;> simp at e
        obtain ⟨rfl, rfl⟩ := e
        obtain ⟨a, vs, rfl, h1, r1⟩ := seqOf_ok w ru e1
        refine ⟨a, _, vs, rfl, rv, h1, hc1, hc2, ?_, newL_ok w (paired_rep r1 _) q⟩
        rw [← paired_len r1]; exact hc3
/-! ### == and !=, is, in -/
def scalD : RV → RV → Option Bool
  | .d (.int i), .d (.int j) => some (decide (i = j))
  | .d (.str i), .d (.str j) => some (decide (i = j))
  | .d (.bl i), .d (.bl j) => some (decide (i = j))
  | _, _ => none
def isScal (u v : RV) : Bool := (scalD u v).isSome
theorem scalD_ok {u v : RV} {b : Bool} {x y : V} (h : scalD u v = some b) (ru : RepRV c u x) (rv : RepRV c v y) : scal x y = true ∧ decide (x = y) = b := by
  cases u with
  | r l => simp [scalD] at h
  | d a =>
    cases v with
    | r l => cases a <;> simp [scalD] at h
    | d d2 =>
      cases a <;> cases d2 <;> simp [scalD] at h <;> cases ru <;> cases rv <;> refine ⟨rfl, ?_⟩ <;> rw [← h] <;> simp
def opEqS (neg : Bool) (u v : RV) : M RV := (M.opt (scalD u v)).bind fun b => M.ret (.d (.bl (b != neg)))
theorem opd_eqS : OpD G rEq (opEqS false) := by
  intro c x y u v Q w ru rv h
  obtain ⟨b, e, q⟩ := wpM_opt (wpM_bind.mp h)
  obtain ⟨h1, h2⟩ := scalD_ok e ru rv
  exact ⟨h1, QV.here (v := .d (.bl (b != false))) q w (by show V.bl _ = V.bl _; rw [h2]; cases b <;> rfl)⟩
theorem opd_neS : OpD G rNe (opEqS true) := by
  intro c x y u v Q w ru rv h
  obtain ⟨b, e, q⟩ := wpM_opt (wpM_bind.mp h)
  obtain ⟨h1, h2⟩ := scalD_ok e ru rv
  exact ⟨h1, QV.here (v := .d (.bl (b != true))) q w (by show V.bl _ = V.bl _; rw [h2]; cases b <;> rfl)⟩
def eqvD (W : Wd) (u v : RV) : Option Bool := (peek W u).bind fun a => (peek W v).bind fun b => (toPy a).bind fun p => (toPy b).bind fun q => if SeqAt.shaped p = true ∧ SeqAt.shaped q = true then some (PyData.eqv p q) else none
theorem eqvD_ok {u v : RV} {b : Bool} {x y : V} (w : WOk c) (h : eqvD c.W u v = some b) (ru : RepRV c u x) (rv : RepRV c v y) : ∃ p q, Dp G.K c.H x p ∧ Dp G.K c.H y q ∧ SeqAt.shaped p = true ∧ SeqAt.shaped q = true ∧ PyData.eqv p q = b := by
  unfold eqvD at h
  simp only [Option.bind_eq_some_iff] at h
  obtain ⟨a, e1, a2, e2, p, e3, q, e4, e5⟩ := h
  split at e5
  · rename_i hs
    exact ⟨p, q, peek_ok w ru e1 e3, peek_ok w rv e2 e4, hs.1, hs.2, by simpa using e5⟩
  · cases e5
def opEqD (neg : Bool) (u v : RV) : M RV := (M.look fun W => eqvD W u v).bind fun b => M.ret (.d (.bl (b != neg)))
theorem opd_eqD : OpD G (rEqD G.K) (opEqD false) := by
  intro c x y u v Q w ru rv h
  obtain ⟨b, e, q⟩ := wpM_look (wpM_bind.mp h)
  obtain ⟨p, p2, d1, d2, s1, s2, e2⟩ := eqvD_ok w e ru rv
  exact ⟨p, p2, d1, d2, s1, s2, QV.here (v := .d (.bl (b != false))) q w (by show V.bl _ = V.bl _; rw [e2]; cases b <;> rfl)⟩
theorem opd_neD : OpD G (rNeD G.K) (opEqD true) := by
  intro c x y u v Q w ru rv h
  obtain ⟨b, e, q⟩ := wpM_look (wpM_bind.mp h)
  obtain ⟨p, p2, d1, d2, s1, s2, e2⟩ := eqvD_ok w e ru rv
  exact ⟨p, p2, d1, d2, s1, s2, QV.here (v := .d (.bl (b != true))) q w (by show V.bl _ = V.bl _; rw [e2]; cases b <;> rfl)⟩
def opEq (neg : Bool) (u v : RV) : M RV := if isScal u v then opEqS neg u v else opEqD neg u v
theorem opd_eq : OpD G (fun x y H Q => rEq x y H Q ∨ rEqD G.K x y H Q) (opEq false) := OpD.or isScal opd_eqS opd_eqD
theorem opd_ne : OpD G (fun x y H Q => rNe x y H Q ∨ rNeD G.K x y H Q) (opEq true) := OpD.or isScal opd_neS opd_neD
/-- is, is not: of two truths, or of None on the right -/
def opIs (neg : Bool) (u v : RV) : M RV := match u, v with
  | .d (.bl a), .d (.bl b) => M.ret (.d (.bl (decide (a = b) != neg)))
  | .d .non, .d .non => M.ret (.d (.bl (!neg)))
  | .r _, .d .non => M.ret (.d (.bl neg))
  | .d _, .d .non => M.ret (.d (.bl neg))
  | _, _ => M.fail
def isBl2 (u v : RV) : Bool := match u, v with | .d (.bl _), .d (.bl _) => true | _, _ => false
theorem opd_is : OpD G (fun x y H Q => rIsB x y H Q ∨ (y = .non ∧ Q (.bl (decide (x = .non))) H)) (opIs false) := by
  intro c x y u v Q w ru rv h
  cases v with
  | r l => cases u with
    | r _ => exact h.elim
    | d a => cases a <;> exact h.elim
  | d b =>
    cases u with
    | r l =>
      cases b <;> try exact h.elim
      obtain ⟨rfl, _⟩ := ru
      exact .inr ⟨rv, QV.here (v := .d (.bl false)) h w (by simp [RepRV, Rep])⟩
    | d a =>
      cases b <;> cases a <;> (try exact h.elim) <;> cases rv
      case d.d.bl.bl.refl b a => cases ru; exact .inl ⟨a, b, rfl, rfl, QV.here (v := .d (.bl (decide (a = b) != false))) h w (by show V.bl _ = V.bl _; cases decide (a = b) <;> rfl)⟩
      case d.d.non.non.refl => cases ru; exact .inr ⟨rfl, QV.here (v := .d (.bl true)) h w (by simp [RepRV, Rep])⟩
      all_goals
        refine .inr ⟨rfl, ?_⟩
        have hx : x ≠ .non := by
          intro z
          subst z
          simp [RepRV, Rep] at ru
        rw [decide_eq_false hx]
        exact QV.here (v := .d (.bl false)) h w rfl
theorem opd_isNot : OpD G (fun x y H Q => rNotB x y H Q ∨ (y = .non ∧ Q (.bl (!decide (x = .non))) H)) (opIs true) := by
  intro c x y u v Q w ru rv h
  cases v with
  | r l => cases u with
    | r _ => exact h.elim
    | d a => cases a <;> exact h.elim
  | d b =>
    cases u with
    | r l =>
      cases b <;> try exact h.elim
      obtain ⟨rfl, _⟩ := ru
      exact .inr ⟨rv, QV.here (v := .d (.bl true)) h w (by simp [RepRV, Rep])⟩
    | d a =>
      cases b <;> cases a <;> (try exact h.elim) <;> cases rv
      case d.d.bl.bl.refl b a => cases ru; exact .inl ⟨a, b, rfl, rfl, QV.here (v := .d (.bl (decide (a = b) != true))) h w (by show V.bl _ = V.bl _; cases decide (a = b) <;> rfl)⟩
      case d.d.non.non.refl => cases ru; exact .inr ⟨rfl, QV.here (v := .d (.bl false)) h w (by simp [RepRV, Rep])⟩
      all_goals
        refine .inr ⟨rfl, ?_⟩
        have hx : x ≠ .non := by
          intro z
          subst z
          simp [RepRV, Rep] at ru
        rw [decide_eq_false hx]
        exact QV.here (v := .d (.bl true)) h w rfl
end
end DL
set_option Elab.async false
set_option linter.all false
set_option maxRecDepth 100000
set_option maxHeartbeats 4000000
/-! DL5: in, subscripts, slices, displays, built-in functions and methods. -/
namespace DL
open PySem PySem.Spec PyProof.Rows L2
section
variable {G : Gh} {c : Cf}
/-! ### in -/
def flD : RV → Option V
  | .d .non => some .non
  | .d (.bl b) => some (.bl b)
  | .d (.int i) => some (.int i)
  | .d (.str s) => some (.str s)
  | _ => none
theorem flD_ok {u : RV} {x v : V} (h : flD u = some v) (r : RepRV c u x) : x = v ∧ flatV v = true := by
  cases u with
  | r l => simp [flD] at h
  | d a => cases a <;> simp [flD] at h <;> cases r <;> subst h <;> exact ⟨rfl, rfl⟩
def flL : List RV → Option (List V)
  | [] => some []
  | u :: r => match flD u, flL r with
    | some a, some b => some (a :: b)
    | _, _ => none
theorem flL_ok : ∀ {us : List RV} {xs vs : List V}, flL us = some vs → RepVs c us xs → xs = vs ∧ vs.all flatV = true
  | [], _, _, h, .nil => by simp [flL] at h; subst h; exact ⟨rfl, rfl⟩
  | u :: us, _, vs, h, .cons (b := x) (l₂ := xs) q t => by
    simp only [flL] at h
    cases e1 : flD u with
    | none => rw [e1] at h; simp at h
    | some a =>
      cases e2 : flL us with
      | none => rw [e1, e2] at h; simp at h
      | some b =>
        rw [e1, e2] at h
        simp at h
        subst h
        obtain ⟨rfl, h1⟩ := flD_ok e1 q
        obtain ⟨rfl, h2⟩ := flL_ok e2 t
        exact ⟨rfl, by simp [h1]; simpa using h2⟩
def opInL (neg : Bool) (u v : RV) : M RV := (M.look fun W => match flD u, seqOf W v with | some a, some (_, ys) => (flL ys).map fun b => inV a b | _, _ => none).bind fun b => M.ret (.d (.bl (b != neg)))
theorem opd_inL {neg : Bool} : OpD G (rIn G.K neg) (opInL neg) := by
  intro c x y u v Q w ru rv h
  obtain ⟨b, e, q⟩ := wpM_look (wpM_bind.mp h)
  cases e1 : flD u with
  | none => rw [e1] at e; simp at e
  | some a =>
    cases e2 : seqOf c.W v with
    | none => rw [e1, e2] at e; simp at e
    | some p =>
      obtain ⟨t, ys⟩ := p
      rw [e1, e2] at e
      simp at e
      obtain ⟨bs, e3, e4⟩ := e
      obtain ⟨rfl, f1⟩ := flD_ok e1 ru
      obtain ⟨p, vs, rfl, h1, r1⟩ := seqOf_ok w rv e2
      obtain ⟨rfl, f2⟩ := flL_ok e3 r1
      refine ⟨p, vs, rfl, ?_, f1, f2, ?_⟩
      · cases t with
        | true => exact .inr (SqT.of h1)
        | false => exact .inl (SqL.of h1)
      · subst e4
        refine QV.here (v := .d (.bl (inV x vs != neg))) q w ?_
        show V.bl _ = V.bl _
        cases neg <;> cases inV x vs <;> rfl
/-- a text in a text -/
def strIn (i j : Str) : Bool := !(Builtin.Str.occurrences j i 0 j.length 1).isEmpty
def opInS (neg : Bool) (u v : RV) : M RV := (M.opt (str2 u v)).bind fun p => M.ret (.d (.bl (strIn p.1 p.2 != neg)))
theorem opd_inS : OpD G (fun x y H Q => ∃ i j, x = .str i ∧ y = .str j ∧ Q (.bl (!(Builtin.Str.occurrences j i 0 j.length 1).isEmpty)) H) (opInS false) := by
  intro c x y u v Q w ru rv h
  obtain ⟨⟨i, j⟩, e, q⟩ := wpM_opt (wpM_bind.mp h)
  obtain ⟨rfl, rfl⟩ := str2_ok e
  exact ⟨i, j, ru, rv, QV.here (v := .d (.bl (strIn i j != false))) q w (by show V.bl _ = V.bl _; unfold strIn; simp)⟩
theorem opd_notInS : OpD G (fun x y H Q => ∃ i j, x = .str i ∧ y = .str j ∧ Q (.bl (!(!(Builtin.Str.occurrences j i 0 j.length 1).isEmpty))) H) (opInS true) := by
  intro c x y u v Q w ru rv h
  obtain ⟨⟨i, j⟩, e, q⟩ := wpM_opt (wpM_bind.mp h)
  obtain ⟨rfl, rfl⟩ := str2_ok e
  exact ⟨i, j, ru, rv, QV.here (v := .d (.bl (strIn i j != true))) q w (by show V.bl _ = V.bl _; unfold strIn; simp)⟩
def opIn (neg : Bool) (u v : RV) : M RV := if isStr2 u v then opInS neg u v else opInL neg u v
/-! ### subscripts -/
def isStrI (u v : RV) : Bool := match u, v with | .d (.str _), .d (.int _) => true | _, _ => false
def opIxS (u v : RV) : M RV := match u, v with
  | .d (.str z), .d (.int i) => (M.guard (z.length ≤ sizeLine)).bind fun _ => (M.opt (atI z.cps.toList i)).bind fun ch => M.ret (.d (.str ⟨#[ch]⟩))
  | _, _ => M.fail
def opIxL (u v : RV) : M RV := match v with
  | .d (.int i) => M.look fun W => (seqOf W u).bind fun p => atI p.2 i
  | _ => M.fail
def opIx (u v : RV) : M RV := if isStrI u v then opIxS u v else opIxL u v
theorem atI_paired {α β : Type} {F : α → β → Prop} {xs : List α} {ys : List β} {i : Int} {x : α} (r : Paired F xs ys) (h : atI xs i = some x) : ∃ y, atI ys i = some y ∧ F x y := by
  unfold atI at h ⊢
  rw [← paired_len r]
  cases e : ixN xs.length i with
  | none => rw [e] at h; simp at h
  | some j =>
    rw [e] at h
    exact paired_get r h
theorem opd_ix : OpD G (fun x y H Q => rIxS x y H Q ∨ rIxL G.K x y H Q ∨ rIxT G.K x y H Q) opIx := by
  refine OpD.or isStrI ?_ ?_
  · intro c x y u v Q w ru rv h
    cases u with
    | r l => exact h.elim
    | d a =>
      cases v with
      | r l => cases a <;> exact h.elim
      | d b =>
        cases a <;> (try exact h.elim) <;> cases b <;> try exact h.elim
        case str.int z i =>
          obtain ⟨hz, h⟩ := wpM_guard (wpM_bind.mp h)
          obtain ⟨ch, e, h⟩ := wpM_opt (wpM_bind.mp h)
          exact ⟨z, i, ch, ru, rv, hz, e, QV.here (v := .d (.str ⟨#[ch]⟩)) h w rfl⟩
  · intro c x y u v Q w ru rv h
    cases v with
    | r l => exact h.elim
    | d b =>
      cases b <;> try exact h.elim
      case int i =>
        obtain ⟨v, e, q⟩ := wpM_look h
        simp only [Option.bind_eq_some_iff] at e
        obtain ⟨⟨t, xs⟩, e1, e2⟩ := e
        obtain ⟨p, vs, rfl, h1, r1⟩ := seqOf_ok w ru e1
        obtain ⟨z, h2, r2⟩ := atI_paired r1 e2
        cases t with
        | true => exact .inr ⟨p, vs, i, z, rfl, rv, SqT.of h1, h2, QV.here q w r2⟩
        | false => exact .inl ⟨p, vs, i, z, rfl, rv, SqL.of h1, h2, QV.here q w r2⟩
/-! ### slices -/
def cutL {α : Type} (xs : List α) (lo hi : Option Int) : List α := (xs.drop (HT.sIx xs.length 0 lo)).take (HT.sIx xs.length xs.length hi - HT.sIx xs.length 0 lo)
theorem cut_paired {α : Type} {F : α → V → Prop} {xs : List α} {ys : List V} {lo hi : Option Int} (r : Paired F xs ys) : Paired F (cutL xs lo hi) (cutV ys lo hi) := by
  unfold cutL cutV
  rw [← paired_len r]
  exact paired_take _ (paired_drop _ r)
def opSl (mk : Bool) (u : RV) (lo hi : Option Int) : M RV := match u with
  | .d (.str z) => (M.guard (z.length ≤ sizeLine)).bind fun _ => M.ret (.d (.str (cutS z lo hi)))
  | u => (M.look fun W => seqOf W u).bind fun p => if p.1 then (M.guard (¬ (HT.sIx p.2.length 0 lo = 0 ∧ HT.sIx p.2.length p.2.length hi = p.2.length))).bind fun _ => newT (cutL p.2 lo hi) else newL mk (cutL p.2 lo hi)
abbrev rSl (K : PySem.W.Frag) : V → Option Int → Option Int → Hp → VK → Prop := fun x lo hi H Q => rSlS x lo hi H Q ∨ rSlL K x lo hi H Q ∨ rSlT K x lo hi H Q
theorem opd_sl {mk : Bool} {c : Cf} {x : V} {u : RV} {lo hi : Option Int} {Q : VK} (w : WOk c) (ru : RepRV c u x) (h : wpM (opSl mk u lo hi) c.W (QV c Q) (QE G c)) : rSl G.K x lo hi c.H Q := by
  have seq : ∀ u x, RepRV c u x → wpM ((M.look fun W => seqOf W u).bind fun p => if p.1 then (M.guard (¬ (HT.sIx p.2.length 0 lo = 0 ∧ HT.sIx p.2.length p.2.length hi = p.2.length))).bind fun _ => newT (cutL p.2 lo hi) else newL mk (cutL p.2 lo hi)) c.W (QV c Q) (QE G c) → rSl G.K x lo hi c.H Q := fun u x ru h => by
    obtain ⟨⟨t, xs⟩, e1, q⟩ := wpM_look (wpM_bind.mp h)
    obtain ⟨p, vs, rfl, h1, r1⟩ := seqOf_ok w ru e1
    cases t with
    | true =>
      obtain ⟨hg, q⟩ := wpM_guard (wpM_bind.mp q)
      refine .inr (.inr ⟨p, vs, rfl, SqT.of h1, ?_, newT_ok w (cut_paired r1) q⟩)
      rw [← paired_len r1]; exact hg
    | false => exact .inr (.inl ⟨p, vs, rfl, SqL.of h1, newL_ok w (cut_paired r1) q⟩)
  cases u with
  | r l => exact seq _ _ ru h
  | d a =>
    cases a
    case str z =>
      obtain ⟨hz, h⟩ := wpM_guard (wpM_bind.mp h)
      exact .inl ⟨z, ru, hz, QV.here (v := .d (.str (cutS z lo hi))) h w rfl⟩
    all_goals exact seq _ _ ru h
end
section
variable {ι : Type} {𝒳 : ι → Cx} {G : Gh} {e a b : Expr} {Fa Fb : Env → M RV} {pos : Pos}
def isTup2 (u v : RV) : Bool := match u with | .d (.tup _) => true | _ => false
def opAdd (mk : Bool) (u v : RV) : M RV := if isInt2 u v then opI0 (fun i j => .int (i + j)) u v else if isStr2 u v then opAddS u v else if isTup2 u v then opCatT u v else opCat mk u v
def opSub : RV → RV → M RV := opI0 fun i j => .int (i - j)
def opMul (mk : Bool) (u v : RV) : M RV := if isInt2 u v then opIC CMulW (fun i j => .int (i * j)) u v else opRep mk u v
def opMod : RV → RV → M RV := opIC (fun _ j => 0 < j) fun i j => .int (i % j)
def opDiv : RV → RV → M RV := opIC CDivG fun i j => .int (i.fdiv j)
def opPow : RV → RV → M RV := opIC CPow fun i j => .int (i ^ j.toNat)
theorem de_add (mk : Bool := false) (hK : ∀ i, (𝒳 i).K = G.K) (ha : DE 𝒳 G a Fa) (hb : DE 𝒳 G b Fb) : DE 𝒳 G (.BinOp a .Add b pos) (ev2 (opAdd mk) Fa Fb) :=
  de_bin (r := fun x y H Q => _ ∨ _ ∨ _ ∨ _) (fun i => op_add.or (op_add_str.or ((by have := op_catT (X := 𝒳 i); rw [hK i] at this; exact this : OpR (𝒳 i) (binaryOp .Add) (rCatT G.K)).or op_cat)))
    (OpD.or isInt2 (opd_I0 fun _ _ _ => rfl) (OpD.or isStr2 opd_addS (OpD.or isTup2 opd_catT opd_cat))) ha hb
theorem de_sub (ha : DE 𝒳 G a Fa) (hb : DE 𝒳 G b Fb) : DE 𝒳 G (.BinOp a .Sub b pos) (ev2 opSub Fa Fb) := de_bin (fun _ => op_sub) (opd_I0 fun _ _ _ => rfl) ha hb
theorem de_mul (mk : Bool := false) (ha : DE 𝒳 G a Fa) (hb : DE 𝒳 G b Fb) : DE 𝒳 G (.BinOp a .Mult b pos) (ev2 (opMul mk) Fa Fb) :=
  de_bin (r := fun x y H Q => _ ∨ _) (fun i => op_mulW.or op_rep) (OpD.or isInt2 (opd_IC fun _ _ _ => rfl) opd_rep) ha hb
theorem de_mod (ha : DE 𝒳 G a Fa) (hb : DE 𝒳 G b Fb) : DE 𝒳 G (.BinOp a .Mod b pos) (ev2 opMod Fa Fb) := de_bin (fun _ => op_mod) (opd_IC fun _ _ _ => rfl) ha hb
theorem de_fdiv (ha : DE 𝒳 G a Fa) (hb : DE 𝒳 G b Fb) : DE 𝒳 G (.BinOp a .FloorDiv b pos) (ev2 opDiv Fa Fb) := de_bin (fun _ => op_fdivG) (opd_IC fun _ _ _ => rfl) ha hb
theorem de_pow (ha : DE 𝒳 G a Fa) (hb : DE 𝒳 G b Fb) : DE 𝒳 G (.BinOp a .Pow b pos) (ev2 opPow Fa Fb) := de_bin (fun _ => op_pow) (opd_IC fun _ _ _ => rfl) ha hb
def opLt := opI0 fun i j => D.bl (decide (i < j))
def opLe := opI0 fun i j => D.bl (decide (i ≤ j))
def opGt := opI0 fun i j => D.bl (decide (j < i))
def opGe := opI0 fun i j => D.bl (decide (j ≤ i))
theorem opd_lt : OpD G (rI0 fun i j => .bl (decide (i < j))) opLt := opd_I0 fun _ _ _ => rfl
theorem opd_le : OpD G (rI0 fun i j => .bl (decide (i ≤ j))) opLe := opd_I0 fun _ _ _ => rfl
theorem opd_gt : OpD G (rI0 fun i j => .bl (decide (j < i))) opGt := opd_I0 fun _ _ _ => rfl
theorem opd_ge : OpD G (rI0 fun i j => .bl (decide (j ≤ i))) opGe := opd_I0 fun _ _ _ => rfl
theorem or_eq (hK : ∀ i, (𝒳 i).K = G.K) {k : Nat} (hr : ∀ i, Room k (𝒳 i).A) (i : ι) : OpR (𝒳 i) (compareOp .Eq) (fun x y H Q => rEq x y H Q ∨ rEqD G.K x y H Q) := by
  have := op_eqD (X := 𝒳 i) (hr i).units
  rw [hK i] at this
  exact op_eq.or this
theorem or_ne (hK : ∀ i, (𝒳 i).K = G.K) {k : Nat} (hr : ∀ i, Room k (𝒳 i).A) (i : ι) : OpR (𝒳 i) (compareOp .NotEq) (fun x y H Q => rNe x y H Q ∨ rNeD G.K x y H Q) := by
  have := op_neD (X := 𝒳 i) (hr i).units
  rw [hK i] at this
  exact op_ne.or this
theorem or_is (i : ι) : OpR (𝒳 i) (compareOp .Is) (fun x y H Q => rIsB x y H Q ∨ (y = .non ∧ Q (.bl (decide (x = .non))) H)) := op_isBl.or op_isN
theorem or_isNot (i : ι) : OpR (𝒳 i) (compareOp .IsNot) (fun x y H Q => rNotB x y H Q ∨ (y = .non ∧ Q (.bl (!decide (x = .non))) H)) := op_notBl.or op_notN
theorem or_in (hK : ∀ i, (𝒳 i).K = G.K) (i : ι) : OpR (𝒳 i) (compareOp .In) (fun x y H Q => (∃ i j, x = .str i ∧ y = .str j ∧ Q (.bl (!(Builtin.Str.occurrences j i 0 j.length 1).isEmpty)) H) ∨ rIn G.K false x y H Q) := by
  have := op_in_seq (X := 𝒳 i)
  rw [hK i] at this
  exact op_in_str.or this
theorem or_notIn (hK : ∀ i, (𝒳 i).K = G.K) (i : ι) : OpR (𝒳 i) (compareOp .NotIn) (fun x y H Q => (∃ i j, x = .str i ∧ y = .str j ∧ Q (.bl (!(!(Builtin.Str.occurrences j i 0 j.length 1).isEmpty))) H) ∨ rIn G.K true x y H Q) := by
  have := op_notIn_seq (X := 𝒳 i)
  rw [hK i] at this
  exact op_notIn_str.or this
theorem opd_in : OpD G (fun x y H Q => (∃ i j, x = .str i ∧ y = .str j ∧ Q (.bl (!(Builtin.Str.occurrences j i 0 j.length 1).isEmpty)) H) ∨ rIn G.K false x y H Q) (opIn false) := OpD.or isStr2 opd_inS opd_inL
theorem opd_notIn : OpD G (fun x y H Q => (∃ i j, x = .str i ∧ y = .str j ∧ Q (.bl (!(!(Builtin.Str.occurrences j i 0 j.length 1).isEmpty))) H) ∨ rIn G.K true x y H Q) (opIn true) := OpD.or isStr2 opd_notInS opd_inL
/-- a < b < c of ints -/
def evChain (f g : Int → Int → Bool) (Fa Fb Fc : Env → M RV) (δ : Env) : M RV := (Fa δ).bind fun u => (Fb δ).bind fun v => (M.opt (int2 u v)).bind fun p => if f p.1 p.2 then (Fc δ).bind fun z => (M.opt (int2 v z)).bind fun q => M.ret (.d (.bl (g q.1 q.2))) else M.ret (.d (.bl false))
theorem rd_chain {ta tb tc : TE} {Fc : Env → M RV} {f g : Int → Int → Bool} (ra : RdE G ta Fa) (rb : RdE G tb Fb) (rc : RdE G tc Fc) : RdE G (tChain (rI0 fun i j => .bl (f i j)) (rI0 fun i j => .bl (g i j)) ta tb tc) (evChain f g Fa Fb Fc) := by
  intro c σ δ Q s w h
  refine ra c σ δ _ s w (wpM_mono (wpM_bind.mp h) (fun u W1 h1 x1 c1 hw e1 w1 r1 => ?_) fun _ _ q => q)
  subst hw
  refine rb c1 σ δ _ (s.mono e1) w1 (wpM_mono (wpM_bind.mp h1) (fun v W2 h2 x2 c2 hw e2 w2 r2 => ?_) fun _ _ q => q.mono e1)
  subst hw
  obtain ⟨⟨i, j⟩, e, q⟩ := wpM_opt (wpM_bind.mp h2)
  obtain ⟨rfl, rfl⟩ := int2_ok e
  refine ⟨i, j, r1.mono e2, r2, f i j, rfl, ?_⟩
  dsimp only at q
  cases hf : f i j with
  | false =>
    rw [hf] at q
    exact QV.here (v := .d (.bl false)) ((QV.mono e1 q).mono e2) w2 rfl
  | true =>
    rw [hf] at q
    refine rc c2 σ δ _ ((s.mono e1).mono e2) w2 (wpM_mono (wpM_bind.mp q) (fun z W3 h3 x3 c3 hw e3 w3 r3 => ?_) fun _ _ q => (q.mono e1).mono e2)
    subst hw
    obtain ⟨⟨i2, j2⟩, e4, q4⟩ := wpM_opt (wpM_bind.mp h3)
    obtain ⟨h5, rfl⟩ := int2_ok e4
    injection h5 with h5
    injection h5 with h5
    subst h5
    exact ⟨j, j2, r2.mono e3, r3, QV.here (v := .d (.bl (g j j2))) (((QV.mono e1 q4).mono e2).mono e3) w3 rfl⟩
end
end DL
set_option Elab.async false
set_option linter.all false
set_option maxRecDepth 100000
set_option maxHeartbeats 4000000
/-! DL6: displays, subscripts, slices, built-in functions, methods. -/
namespace DL
open PySem PySem.Spec PyProof.Rows L2
section
variable {ι : Type} {𝒳 : ι → Cx} {G : Gh} {e a b cc : Expr} {Fa Fb Fc : Env → M RV} {pos : Pos} {es : List Expr} {R : Env → M (List RV)}
theorem de_chain {op op' : CmpOp} {f g : Int → Int → Bool} (hp : ∀ i, OpR (𝒳 i) (compareOp op) (rI0 fun i j => .bl (f i j))) (hq : ∀ i, OpR (𝒳 i) (compareOp op') (rI0 fun i j => .bl (g i j))) (ha : DE 𝒳 G a Fa) (hb : DE 𝒳 G b Fb) (hc : DE 𝒳 G cc Fc)
    (hm : lastMarks [op, op'] [b, cc] = false := by with_unfolding_all rfl) : DE 𝒳 G (.Compare a [op, op'] [b, cc] pos) (evChain f g Fa Fb Fc) := by
  obtain ⟨ta, pa, ra⟩ := ha
  obtain ⟨tb, pb, rb⟩ := hb
  obtain ⟨tc, pc, rc⟩ := hc
  exact ⟨_, fun i => pe_chain (hp i) (hq i) (pa i) (pb i) (pc i) hm, rd_chain ra rb rc⟩
theorem dt_chain {op op' : CmpOp} {f g : Int → Int → Bool} (hp : ∀ i, OpR (𝒳 i) (compareOp op) (rI0 fun i j => .bl (f i j))) (hq : ∀ i, OpR (𝒳 i) (compareOp op') (rI0 fun i j => .bl (g i j))) (ha : DE 𝒳 G a Fa) (hb : DE 𝒳 G b Fb) (hc : DE 𝒳 G cc Fc)
    (hm : lastMarks [op, op'] [b, cc] = false := by with_unfolding_all rfl) : DT 𝒳 G (.Compare a [op, op'] [b, cc] pos) (evB (evChain f g Fa Fb Fc)) := by
  obtain ⟨ta, pa, ra⟩ := ha
  obtain ⟨tb, pb, rb⟩ := hb
  obtain ⟨tc, pc, rc⟩ := hc
  exact ⟨_, fun i => pt_chain (hp i) (hq i) (pa i) (pb i) (pc i) hm, (rd_chain ra rb rc).test⟩
/-! ### displays -/
def evLst (mk : Bool) (R : Env → M (List RV)) (δ : Env) : M RV := (R δ).bind fun vs => (M.guard (vs.length ≤ sizeLine)).bind fun _ => newL mk vs
def evTup (R : Env → M (List RV)) (δ : Env) : M RV := (R δ).bind fun vs => (M.guard (vs.length ≤ sizeLine)).bind fun _ => newT vs
theorem de_lst (mk : Bool := false) (h : DA 𝒳 G es R) : DE 𝒳 G (.List es pos) (evLst mk R) := by
  obtain ⟨t, p, r⟩ := h
  refine ⟨_, fun i => pe_lst (p i), fun c σ δ Q s w hq => ?_⟩
  refine r c σ δ _ s w (wpM_mono (wpM_bind.mp hq) (fun vs W1 h1 xs c1 hw e1 w1 r1 => ?_) fun _ _ q => q)
  subst hw
  obtain ⟨hz, q⟩ := wpM_guard (wpM_bind.mp h1)
  exact ⟨by rw [← paired_len r1]; exact hz, newL_ok (E := QE G c1) w1 r1 (wpM_mono q (fun _ _ q => q.mono e1) fun _ _ q => q.mono e1)⟩
theorem de_tup {x1} (h : DA 𝒳 G es R) : DE 𝒳 G (.Tuple es x1 pos) (evTup R) := by
  obtain ⟨t, p, r⟩ := h
  refine ⟨_, fun i => pe_tup (p i), fun c σ δ Q s w hq => ?_⟩
  refine r c σ δ _ s w (wpM_mono (wpM_bind.mp hq) (fun vs W1 h1 xs c1 hw e1 w1 r1 => ?_) fun _ _ q => q)
  subst hw
  obtain ⟨hz, q⟩ := wpM_guard (wpM_bind.mp h1)
  exact ⟨by rw [← paired_len r1]; exact hz, newT_ok (E := QE G c1) w1 r1 (wpM_mono q (fun _ _ q => q.mono e1) fun _ _ q => q.mono e1)⟩
/-! ### subscripts, slices -/
theorem de_ix (hK : ∀ i, (𝒳 i).K = G.K) (ha : DE 𝒳 G a Fa) (hb : DE 𝒳 G b Fb) (hs : PlainIx b) : DE 𝒳 G (.Subscript a b pos) (ev2 opIx Fa Fb) := by
  obtain ⟨ta, pa, ra⟩ := ha
  obtain ⟨tb, pb, rb⟩ := hb
  refine ⟨tOp (fun x y H Q => rIxS x y H Q ∨ rIxL G.K x y H Q ∨ rIxT G.K x y H Q) ta tb, fun i => ?_, ra.two rb opd_ix⟩
  have := pe_ix (pos := pos) (ix_str.or (ix_list.or ix_tup)) (pa i) (pb i) hs
  rw [hK i] at this
  exact this
def RdO (G : Gh) (t : TO) (F : Env → M (Option Int)) : Prop := ∀ (c : Cf) (σ : L2.St) (δ : Env) (Q : Option Int → Hp → Prop), SOk σ δ c → WOk c → wpM (F δ) c.W (fun o W' => ∀ c', c'.W = W' → Ext c c' → WOk c' → Q o c'.H) (QE G c) → t σ c.H Q
def DO (𝒳 : ι → Cx) (G : Gh) (e : Option Expr) (F : Env → M (Option Int)) : Prop := ∃ t, (∀ i, PO (𝒳 i) e t) ∧ RdO G t F
theorem do_none : DO 𝒳 G none (fun _ => M.ret none) := ⟨_, fun _ => po_none, fun c σ δ Q s w h => h c rfl (Ext.refl c) w⟩
def asI : RV → M Int
  | .d (.int i) => M.ret i
  | _ => M.fail
theorem asI_ok {v : RV} {W : Wd} {Q : Int → Wd → Prop} {E : DX → Wd → Prop} (h : wpM (asI v) W Q E) : ∃ b, v = .d (.int b) ∧ Q b W := by
  cases v with
  | r l => exact h.elim
  | d x => cases x <;> first | exact ⟨_, rfl, h⟩ | exact h.elim
theorem do_some (h : DE 𝒳 G e Fa) : DO 𝒳 G (some e) (fun δ => (Fa δ).bind fun u => (asI u).bind fun i => M.ret (some i)) := by
  obtain ⟨t, p, r⟩ := h
  refine ⟨_, fun i => po_some (p i), fun c σ δ Q s w hq => ?_⟩
  refine r c σ δ _ s w (wpM_mono (wpM_bind.mp hq) (fun u W1 h1 x1 c1 hw e1 w1 r1 => ?_) fun _ _ q => q)
  obtain ⟨i, rfl, q⟩ := asI_ok (wpM_bind.mp h1)
  exact ⟨i, r1, q c1 hw e1 w1⟩
def evSl (mk : Bool) (Fa : Env → M RV) (L H : Env → M (Option Int)) (δ : Env) : M RV := (Fa δ).bind fun u => (L δ).bind fun lo => (H δ).bind fun hi => opSl mk u lo hi
theorem de_sl (mk : Bool := false) {lo hi : Option Expr} {L H : Env → M (Option Int)} {p2 : Pos} (hK : ∀ i, (𝒳 i).K = G.K) (ha : DE 𝒳 G a Fa) (hl : DO 𝒳 G lo L) (hh : DO 𝒳 G hi H) : DE 𝒳 G (.Subscript a (.Slice lo hi none p2) pos) (evSl mk Fa L H) := by
  obtain ⟨ta, pa, ra⟩ := ha
  obtain ⟨tl, pl, rl⟩ := hl
  obtain ⟨th, ph, rh⟩ := hh
  refine ⟨tSl (rSl G.K) ta tl th, fun i => ?_, fun c σ δ Q s w hq => ?_⟩
  · have := pe_slice (pos := pos) (p2 := p2) (sl_str.or (sl_list.or sl_tup)) (pa i) (pl i) (ph i)
    rw [hK i] at this
    exact this
  refine ra c σ δ _ s w (wpM_mono (wpM_bind.mp hq) (fun u W1 h1 x1 c1 hw e1 w1 r1 => ?_) fun _ _ q => q)
  subst hw
  refine rl c1 σ δ _ (s.mono e1) w1 (wpM_mono (wpM_bind.mp h1) (fun lo W2 h2 c2 hw e2 w2 => ?_) fun _ _ q => q.mono e1)
  subst hw
  refine rh c2 σ δ _ ((s.mono e1).mono e2) w2 (wpM_mono (wpM_bind.mp h2) (fun hi W3 h3 c3 hw e3 w3 => ?_) fun _ _ q => (q.mono e1).mono e2)
  subst hw
  exact opd_sl (mk := mk) w3 ((r1.mono e2).mono e3) (wpM_mono h3 (fun _ _ q => ((q.mono e1).mono e2).mono e3) fun _ _ q => ((q.mono e1).mono e2).mono e3)
/-! ### built-in functions -/
def CallD (G : Gh) (r : List V → Hp → VK → Prop) (f : List RV → M RV) : Prop := ∀ (c : Cf) (xs : List V) (us : List RV) (Q : VK), WOk c → RepVs c us xs → wpM (f us) c.W (QV c Q) (QE G c) → r xs c.H Q
def evCall (f : List RV → M RV) (R : Env → M (List RV)) (δ : Env) : M RV := (R δ).bind f
theorem RdA.call {ta : TA} {r : List V → Hp → VK → Prop} {f : List RV → M RV} (ha : RdA G ta R) (hr : CallD G r f) : RdE G (tCB r ta) (evCall f R) := by
  intro c σ δ Q s w h
  refine ha c σ δ _ s w (wpM_mono (wpM_bind.mp h) (fun us W1 h1 xs c1 hw e1 w1 r1 => ?_) fun _ _ q => q)
  subst hw
  exact hr c1 xs us Q w1 r1 (wpM_mono h1 (fun _ _ q => q.mono e1) fun _ _ q => q.mono e1)
theorem CallD.or {r r' : List V → Hp → VK → Prop} {f f' : List RV → M RV} (t : List RV → Bool) (h : CallD G r f) (h' : CallD G r' f') : CallD G (fun xs H Q => r xs H Q ∨ r' xs H Q) (fun us => if t us then f us else f' us) := by
  intro c xs us Q w ru hq
  dsimp only at hq
  cases e : t us with
  | true => rw [e] at hq; exact .inl (h c xs us Q w ru hq)
  | false => rw [e] at hq; exact .inr (h' c xs us Q w ru hq)
theorem de_callB {x : Str} {id : String} {r : List V → Hp → VK → Prop} {f : List RV → M RV} {p : Pos} (hc : ∀ i, CallR (𝒳 i) (.builtin id) r) (hr : CallD G r f) (hm : ∀ i, (𝒳 i).mg x = none) (ha : DA 𝒳 G (e :: es) R) (hg : ∀ i, Gl (𝒳 i) x := by intro _; rfl) (hv : bootBuiltins x = some (.builtin id) := by decide +kernel)
    (hn : x ≠ "__name__" := by decide) (hdb : (x == ("__debug__" : Str)) = false := by decide) (he : ∀ i, starEach (e :: es) (𝒳 i).env = (false, eval e (𝒳 i).env) :: starEach es (𝒳 i).env := by intro _; rfl) (hpl : ∀ i, (backTo pos (starEach es (𝒳 i).env)).any (·.1) = false := by intro _; rfl) :
    DE 𝒳 G (.Call (.Name x p) (e :: es) [] pos) (evCall f R) := by
  obtain ⟨t, pt, rt⟩ := ha
  exact ⟨_, fun i => pe_callB (hc i) (hg i) (hm i) hv (pt i) hn hdb (he i) (hpl i), rt.call hr⟩
theorem de_callTy {x : Str} {T : String} {r : List V → Hp → VK → Prop} {f : List RV → M RV} {p : Pos} (hc : ∀ i, CallR (𝒳 i) (.type T) r) (hr : CallD G r f) (hm : ∀ i, (𝒳 i).mg x = none) (ha : DA 𝒳 G (e :: es) R) (hg : ∀ i, Gl (𝒳 i) x := by intro _; rfl) (hv : bootBuiltins x = some (.type T) := by decide +kernel)
    (hn : x ≠ "__name__" := by decide) (hdb : (x == ("__debug__" : Str)) = false := by decide) (he : ∀ i, starEach (e :: es) (𝒳 i).env = (false, eval e (𝒳 i).env) :: starEach es (𝒳 i).env := by intro _; rfl) (hpl : ∀ i, (backTo pos (starEach es (𝒳 i).env)).any (·.1) = false := by intro _; rfl) :
    DE 𝒳 G (.Call (.Name x p) (e :: es) [] pos) (evCall f R) := by
  obtain ⟨t, pt, rt⟩ := ha
  exact ⟨_, fun i => pe_callTy (hc i) (hg i) (hm i) hv (pt i) hn hdb (he i) (hpl i), rt.call hr⟩
/-- a built-in type as a value -/
theorem de_ty (t : Ty) {x : Str} {pos : Pos} (hm : ∀ i, (𝒳 i).mg x = none) (hg : ∀ i, Gl (𝒳 i) x := by intro _; rfl) (hv : bootBuiltins x = some (.type t.nm) := by decide +kernel) (hn : x ≠ "__name__" := by decide) (hdb : (x == ("__debug__" : Str)) = false := by decide) :
    DE 𝒳 G (.Name x pos) (fun _ => M.ret (.d (.ty t))) :=
  ⟨_, fun i => pe_bltn (v := .ty t.nm) (hg i) (hm i) hv rfl hn hdb, fun c σ δ Q s w h => QV.here (v := .d (.ty t)) h w rfl⟩
end
section
variable {G : Gh} {c : Cf}
theorem vs1 {u : RV} {xs : List V} (r : RepVs c [u] xs) : ∃ x, xs = [x] ∧ RepRV c u x := by cases r with | cons h t => cases t; exact ⟨_, rfl, h⟩
theorem vs2 {u v : RV} {xs : List V} (r : RepVs c [u, v] xs) : ∃ x y, xs = [x, y] ∧ RepRV c u x ∧ RepRV c v y := by cases r with | cons h t => cases t with | cons h2 t => cases t; exact ⟨_, _, rfl, h, h2⟩
/-- len -/
def bLen : List RV → M RV
  | [.d (.str s)] => (M.guard (s.length ≤ sizeLine)).bind fun _ => M.ret (.d (.int s.length))
  | [.d (.dK kvs)] => M.ret (.d (.int kvs.length))
  | [.d (.dT kvs)] => M.ret (.d (.int kvs.length))
  | [u] => (M.look fun W => seqOf W u).bind fun p => M.ret (.d (.int p.2.length))
  | _ => M.fail
theorem repK_len : ∀ {ds : List (Key × D)} {vs : List (Key × V)}, RepK c ds vs → ds.length = vs.length
  | [], _, h => by cases h; rfl
  | (_, _) :: _, _, h => by
    obtain ⟨v, r, rfl, _, h2⟩ := h
    rw [List.length_cons, List.length_cons, repK_len h2]
theorem repT_len : ∀ {ds : List (List Key × D)} {vs : List (List Key × V)}, RepT c ds vs → ds.length = vs.length
  | [], _, h => by cases h; rfl
  | (_, _) :: _, _, h => by
    obtain ⟨v, r, rfl, _, h2⟩ := h
    rw [List.length_cons, List.length_cons, repT_len h2]
theorem call_lenR {X : Cx} : CallR X (.builtin "len") (fun xs H Q => (∃ a kvs, xs = [V.ref a] ∧ Rd H a (.dK kvs) ∧ Q (.int kvs.length) H) ∨ ∃ a kvs, xs = [V.ref a] ∧ Rd H a (.dT kvs) ∧ Q (.int kvs.length) H) := by
  intro pins s σ H xs us Q I r h
  rcases h with ⟨a, kvs, rfl, ha, q⟩ | ⟨a, kvs, rfl, ha, q⟩
  · obtain ⟨u, rfl, ru⟩ := vals1 r
    cases ru
    exact d_len I ha fun t s' I' => ⟨.int kvs.length, H, I', ⟨t, rfl⟩, q⟩
  · obtain ⟨u, rfl, ru⟩ := vals1 r
    cases ru
    obtain ⟨z, hd, xs, rel, dd⟩ := dt_rd I.hok ha
    refine call_len_dictH hd dd (by rw [← rel.length]; rw [sizeLine_eq] at z; omega) ?_
    rw [← rel.length]
    exact ⟨.int kvs.length, H, I.tok _, ⟨_, rfl⟩, q⟩
theorem call_bLen {X : Cx} (hK : X.K = G.K) : CallR X (.builtin "len") (fun xs H Q => (∃ x n, xs = [x] ∧ LenV G.K x H n ∧ Q (.int n) H) ∨ ((∃ a kvs, xs = [V.ref a] ∧ Rd H a (.dK kvs) ∧ Q (.int kvs.length) H) ∨ ∃ a kvs, xs = [V.ref a] ∧ Rd H a (.dT kvs) ∧ Q (.int kvs.length) H)) := by
  have := call_len (X := X)
  rw [hK] at this
  exact this.or call_lenR
theorem cd_len : CallD G (fun xs H Q => (∃ x n, xs = [x] ∧ LenV G.K x H n ∧ Q (.int n) H) ∨ ((∃ a kvs, xs = [V.ref a] ∧ Rd H a (.dK kvs) ∧ Q (.int kvs.length) H) ∨ ∃ a kvs, xs = [V.ref a] ∧ Rd H a (.dT kvs) ∧ Q (.int kvs.length) H)) bLen := by
  intro c xs us Q w ru h
  have seq : ∀ u, RepVs c [u] xs → wpM ((M.look fun W => seqOf W u).bind fun p => M.ret (.d (.int p.2.length))) c.W (QV c Q) (QE G c) → (∃ x n, xs = [x] ∧ LenV G.K x c.H n ∧ Q (.int n) c.H) := fun u ru h => by
    obtain ⟨x, rfl, r⟩ := vs1 ru
    obtain ⟨⟨t, ys⟩, e, q⟩ := wpM_look (wpM_bind.mp h)
    obtain ⟨a, vs, rfl, h1, r1⟩ := seqOf_ok w r e
    refine ⟨_, vs.length, rfl, ?_, ?_⟩
    · cases t with
      | true => exact .inr ⟨vs, SqT.of h1, rfl⟩
      | false => exact .inl ⟨vs, SqL.of h1, rfl⟩
    · rw [← paired_len r1]
      exact QV.here (v := .d (.int ys.length)) q w rfl
  cases us with
  | nil => exact h.elim
  | cons u us =>
    cases us with
    | cons _ _ => cases u with
      | r _ => exact h.elim
      | d y => cases y <;> exact h.elim
    | nil =>
      cases u with
      | r l => exact .inl (seq _ ru h)
      | d y =>
        cases y
        case str s =>
          obtain ⟨x, rfl, r⟩ := vs1 ru
          cases r
          obtain ⟨hz, q⟩ := wpM_guard (wpM_bind.mp h)
          exact .inl ⟨_, s.length, rfl, ⟨hz, rfl⟩, QV.here (v := .d (.int s.length)) q w rfl⟩
        case dK kvs =>
          obtain ⟨x, rfl, r⟩ := vs1 ru
          obtain ⟨a, ws, rfl, h1, _, h2⟩ := r
          refine .inr (.inl ⟨a, ws, rfl, h1, ?_⟩)
          rw [← repK_len h2]
          exact QV.here (v := .d (.int kvs.length)) h w rfl
        case dT kvs =>
          obtain ⟨x, rfl, r⟩ := vs1 ru
          obtain ⟨a, ws, rfl, h1, _, h2⟩ := r
          refine .inr (.inr ⟨a, ws, rfl, h1, ?_⟩)
          rw [← repT_len h2]
          exact QV.here (v := .d (.int kvs.length)) h w rfl
        all_goals exact .inl (seq _ ru h)
/-! ### the kind of a value -/
/-- as TyX, locked dicts of tuple keys too -/
inductive TyY (K : PySem.W.Frag) (H : Hp) : V → Value → Prop where
  | x {v : V} {t : Value} (h : TyX K H v t) : TyY K H v t
  | fT {a : Addr} {o : Obj} {kvs : List (List Key × V)} (e : H a = some (.frz o (.dT kvs))) : TyY K H (.ref a) (.type "dict")
theorem TyY.base {K : PySem.W.Frag} {H : Hp} {v : V} {t : Value} (h : TyOf K H v t) : TyY K H v t := .x (.base h)
theorem tyY_dK {K : PySem.W.Frag} {H : Hp} {a : Addr} {kvs : List (Key × V)} (h : Rd H a (.dK kvs)) : TyY K H (.ref a) (.type "dict") := h.elim (fun h => .x (.base (.dK h))) fun ⟨_, h⟩ => .x (.fDict h)
theorem tyY_dT {K : PySem.W.Frag} {H : Hp} {a : Addr} {kvs : List (List Key × V)} (h : Rd H a (.dT kvs)) : TyY K H (.ref a) (.type "dict") := h.elim (fun h => .x (.base (.dT h))) fun ⟨_, h⟩ => .fT h
theorem kit_ofY {X : Cx} {pins : List (Addr × Obj)} {σ : L2.St} {H : Hp} {s : Shared} {x : V} {u t : Value} (I : Inv X pins σ H s) (rx : RelV x u) (ty : TyY X.K H x t) : ∃ P : Heap → Prop, PySem.W.KitX X.K u t P ∧ P s.heap ∧ u ≠ .builtin "__main__.__loader__#opaque" := by
  cases ty with
  | x h => exact kit_of I rx h
  | @fT a ob kvs ea =>
    cases (show u = Value.ref a from rx)
    obtain ⟨_, _, _, xs, _, o, es, ep, h1, h2, _⟩ := (show ObjOk X.prog X.w H s.heap a (.frz ob (.dT kvs)) from I.hok a _ ea)
    exact ⟨_, PySem.W.kitx_dict, ⟨o, h1, h2.1⟩, fun z => nomatch z⟩
def rIsiY (K : PySem.W.Frag) : List V → Hp → VK → Prop := fun xs H Q => ∃ (x c : V) (t u : Value) (b : Bool), xs = [x, c] ∧ ClsV c u ∧ TyY K H x t ∧ PySem.W.kitOne K t u = some b ∧ Q (.bl b) H
def rIsiTY (K : PySem.W.Frag) : List V → Hp → VK → Prop := fun xs H Q => ∃ (x : V) (tp : Addr) (cs : List V) (t : Value) (us : List Value) (b : Bool), xs = [x, .ref tp] ∧ H tp = some (.tup cs) ∧ Paired ClsV cs us ∧ TyY K H x t ∧ PySem.W.kitAny K t us = some b ∧ Q (.bl b) H
theorem call_isiY {X : Cx} : CallR X (.builtin "isinstance") (rIsiY X.K) := by
  intro pins s σ H xs us Q I r h
  obtain ⟨x, c, t, u, b, rfl, k, ty, e, q⟩ := h
  obtain ⟨u1, u2, rfl, r1, r2⟩ := vals2 r
  have e2 := k.eq r2
  subst e2
  obtain ⟨P, Z, p, hx⟩ := kit_ofY I r1 ty
  exact PySem.W.kia_one Z I.kIn p e hx fun tk => ⟨.bl b, H, I.tok tk, rfl, q⟩
theorem call_isiTY {X : Cx} : CallR X (.builtin "isinstance") (rIsiTY X.K) := by
  intro pins s σ H xs us Q I r h
  obtain ⟨x, tp, cs, t, ws, b, rfl, hT, k, ty, e, q⟩ := h
  obtain ⟨u1, u2, rfl, r1, r2⟩ := vals2 r
  cases (show u2 = Value.ref tp from r2)
  obtain ⟨P, Z, p, hx⟩ := kit_ofY I r1 ty
  obtain ⟨_, its, rv, o, h1, h2, n, h3⟩ := (show ObjOk X.prog X.w H s.heap tp (.tup cs) from I.hok tp _ hT)
  have e3 := ClsV.all k rv
  subst e3
  obtain ⟨oc, od, dt, sl⟩ := o
  simp only at h2 h3
  subst h2 h3
  exact PySem.W.kia_tup Z I.kIn p h1 e hx fun tk => ⟨.bl b, H, I.tok tk, rfl, q⟩
/-- the kind of a value -/
def tyOf (W : Wd) : RV → Option Ty
  | .d .non => some .non
  | .d (.bl _) => some .bl
  | .d (.int _) => some .int
  | .d (.str _) => some .str
  | .d (.lst _) => some .lst
  | .d (.tup _) => some .tup
  | .d (.dK _) => some .dct
  | .d (.dT _) => some .dct
  | .d _ => none
  | .r l => match W[l]? with
    | some (.lst _) => some .lst
    | some (.dK _) => some .dct
    | some (.dT _) => some .dct
    | some (.fz (.lst _)) => some .lst
    | some (.fz (.tup _)) => some .tup
    | _ => none
theorem tyOf_ok {u : RV} {x : V} {t : Ty} (w : WOk c) (r : RepRV c u x) (h : tyOf c.W u = some t) : TyY G.K c.H x (.type t.nm) := by
  have seq : ∀ b xs, seqOf c.W u = some (b, xs) → TyY G.K c.H x (.type (if b then Ty.tup.nm else Ty.lst.nm)) := fun b xs e => by
    obtain ⟨a, vs, rfl, h1, _⟩ := seqOf_ok w r e
    cases b with
    | true => exact .base (.tup h1)
    | false => exact .base (.lst h1)
  cases u with
  | d y =>
    cases y <;> simp [tyOf] at h <;> subst h
    case non => cases r; exact .base .non
    case bl => cases r; exact .base (.bl _)
    case int => cases r; exact .base (.int _)
    case str => cases r; exact .base (.str _)
    case lst => exact seq false _ rfl
    case tup => exact seq true _ rfl
    case dK => obtain ⟨a, ws, rfl, h1, _⟩ := r; exact tyY_dK h1
    case dT => obtain ⟨a, ws, rfl, h1, _⟩ := r; exact tyY_dT h1
  | r l =>
    simp only [tyOf] at h
    cases e : c.W[l]? with
    | none => rw [e] at h; simp at h
    | some o =>
      rw [e] at h
      have ob := w.obj l o e
      cases o with
      | lst xs => simp at h; subst h; exact seq false xs (by simp only [seqOf, e])
      | dK xs => simp at h; subst h; obtain ⟨ws, h1, _⟩ := ob; obtain ⟨rfl, _⟩ := r; exact .base (.dK h1)
      | dT xs => simp at h; subst h; obtain ⟨ws, h1, _⟩ := ob; obtain ⟨rfl, _⟩ := r; exact .base (.dT h1)
      | ins C xs => simp at h
      | tbl _ _ => simp at h
      | fz y =>
        cases y <;> simp at h <;> subst h
        case lst ys => exact seq false (ys.map RV.d) (by simp only [seqOf, e])
        case tup ys => exact seq true (ys.map RV.d) (by simp only [seqOf, e])
def Ty.sub (a b : Ty) : Bool := a == b || (a == .bl && b == .int)
theorem ty_sub {K : PySem.W.Frag} (a b : Ty) (h : b ≠ .non) : PySem.W.kitOne K (.type a.nm) (.type b.nm) = some (a.sub b) := by
  cases a <;> cases b <;> first | exact absurd rfl h | exact kit_ty (by decide +kernel)
def tysOf : D → Option (List Ty)
  | .ty t => if t = .non then none else some [t]
  | .tup xs => go xs
  | _ => none
where go : List D → Option (List Ty)
  | [] => some []
  | .ty t :: r => if t = .non then none else (go r).map (t :: ·)
  | _ => none
theorem tysGo_ok : ∀ {xs : List D} {ts : List Ty} {vs : List V}, tysOf.go xs = some ts → RepL c xs vs → vs = ts.map (fun t => V.ty t.nm) ∧ ∀ t ∈ ts, t ≠ .non
  | [], _, _, h, r => by simp [tysOf.go] at h; subst h; cases r; exact ⟨rfl, fun _ h => nomatch h⟩
  | x :: xs, ts, _, h, r => by
    obtain ⟨v, r', rfl, h1, h2⟩ := r
    cases x <;> simp [tysOf.go] at h
    case ty t =>
      obtain ⟨hn, ts', e, rfl⟩ := h
      obtain ⟨rfl, h3⟩ := tysGo_ok e h2
      cases h1
      exact ⟨rfl, fun z hz => by rcases List.mem_cons.mp hz with rfl | hz; exact hn; exact h3 z hz⟩
theorem clsAll : ∀ ts : List Ty, Paired ClsV (ts.map fun t => V.ty t.nm) (ts.map fun t => Value.type t.nm)
  | [] => .nil
  | t :: ts => .cons (.ty _) (clsAll ts)
theorem kitAll {K : PySem.W.Frag} (a : Ty) : ∀ ts : List Ty, (∀ t ∈ ts, t ≠ .non) → PySem.W.kitAny K (.type a.nm) (ts.map fun t => Value.type t.nm) = some (ts.any a.sub)
  | [], _ => rfl
  | t :: ts, h => by
    have h1 := ty_sub (K := K) a t (h t (List.mem_cons_self))
    refine kitAny_cons (b := a.sub t) h1 (fun e => ?_) (fun e => ?_)
    · rw [List.any_cons, e, Bool.false_or]; exact kitAll a ts fun z hz => h z (List.mem_cons_of_mem _ hz)
    · rw [List.any_cons, e, Bool.true_or]
def bIsi : List RV → M RV
  | [u, .d y] => (M.opt (tysOf y)).bind fun ts => (M.look fun W => tyOf W u).bind fun t => M.ret (.d (.bl (ts.any t.sub)))
  | _ => M.fail
theorem cd_isi : CallD G (fun xs H Q => rIsiY G.K xs H Q ∨ rIsiTY G.K xs H Q) bIsi := by
  intro c xs us Q w ru h
  match us, ru, h with
  | [u, .d y], ru, h =>
    obtain ⟨x, z, rfl, r1, r2⟩ := vs2 ru
    obtain ⟨ts, e, q⟩ := wpM_opt (wpM_bind.mp h)
    obtain ⟨t, e2, q⟩ := wpM_look (wpM_bind.mp q)
    have tx := tyOf_ok (G := G) w r1 e2
    cases y <;> simp [tysOf] at e
    case ty b =>
      obtain ⟨hn, rfl⟩ := e
      cases r2
      refine .inl ⟨x, _, _, _, t.sub b, rfl, .ty _, tx, ?_, ?_⟩
      · exact ty_sub t b hn
      · have := QV.here (v := .d (.bl ([b].any t.sub))) q w rfl
        simpa using this
    case tup ys =>
      obtain ⟨a, vs, rfl, h1, _, h2⟩ := r2
      obtain ⟨rfl, hn⟩ := tysGo_ok e h2
      exact .inr ⟨x, a, _, _, _, _, rfl, h1, clsAll ts, tx, kitAll t ts hn, QV.here (v := .d (.bl (ts.any t.sub))) q w rfl⟩
  | [], _, h => exact h.elim
  | [_], _, h => exact h.elim
  | [_, .r _], _, h => exact h.elim
  | _ :: .d _ :: _ :: _, _, h => exact h.elim
  | _ :: .r _ :: _ :: _, _, h => exact h.elim
end
end DL
set_option Elab.async false
set_option linter.all false
set_option maxRecDepth 100000
set_option maxHeartbeats 4000000
/-! DL7: more built-in functions, methods. -/
namespace DL
open PySem PySem.Spec PyProof.Rows L2
/-- list(a text) -/
theorem call_listS {X : Cx} (hc : X.calm = true) : CallR X (.type "list") (fun xs H Q => ∃ z : Str, xs = [.str z] ∧ z.cps.size ≤ sizeLine ∧ ∀ p, H p = none → Q (.ref p) (upd H p (.lst (z.cps.toList.map fun ch => V.str ⟨#[ch]⟩)))) := by
  intro pins s σ H xs us Q I r h
  obtain ⟨z, rfl, hz, q⟩ := h
  obtain ⟨u, rfl, t, rfl⟩ := vals1 r
  refine call_list_str (I.ok.hd hc) z t (fun h' tk acc' c' hk hS hacc => ?_) hz
  refine ⟨.ref s.heap.objs.size, upd H s.heap.objs.size (.lst (z.cps.toList.map fun ch => V.str ⟨#[ch]⟩)), I.laid hk (Nat.le_refl _) (show ObjOk X.prog X.w _ _ _ (.lst (z.cps.toList.map fun ch => V.str ⟨#[ch]⟩)) from ⟨?_, acc'.toList, c', ?_, ?_⟩), rfl, q _ (I.hok.fresh (Nat.le_refl _))⟩
  · rw [List.length_map, Array.length_toList]; exact hz
  · refine vals_of_at (by rw [List.length_map, Array.length_toList, Array.length_toList, hacc.1]) fun j x w h1 h2 => ?_
    obtain ⟨ch, u, hc1, rfl⟩ := hacc.2 j w (by rw [← Array.getElem?_toList]; exact h2)
    rw [List.getElem?_map, Array.getElem?_toList, hc1] at h1
    cases h1
    exact ⟨u, rfl⟩
  · rw [Array.toArray_toList]; exact hS
section
variable {G : Gh} {c : Cf}
def charsOf (z : Str) : List D := z.cps.toList.map fun ch => D.str ⟨#[ch]⟩
theorem chars_rep (z : List Nat) : RepVs c ((z.map fun ch => D.str ⟨#[ch]⟩).map RV.d) (z.map fun ch => V.str ⟨#[ch]⟩) := by
  induction z with
  | nil => exact .nil
  | cons a r ih => exact .cons rfl ih
def bList (mk : Bool) : List RV → M RV
  | [.d (.str z)] => (M.guard (z.cps.size ≤ sizeLine)).bind fun _ => newL mk ((charsOf z).map .d)
  | [.d (.frz xs)] => newL mk (xs.map .d)
  | [u] => (M.look fun W => seqOf W u).bind fun p => newL mk p.2
  | _ => M.fail
abbrev rList (K : PySem.W.Frag) : List V → Hp → VK → Prop := fun xs H Q => (∃ z : Str, xs = [.str z] ∧ z.cps.size ≤ sizeLine ∧ ∀ p, H p = none → Q (.ref p) (upd H p (.lst (z.cps.toList.map fun ch => V.str ⟨#[ch]⟩)))) ∨
  ∃ p ys, xs = [.ref p] ∧ (SqL K H p ys ∨ SqT K H p ys) ∧ ∀ l, H l = none → Q (.ref l) (upd H l (.lst ys))
theorem call_bList {X : Cx} (hc : X.calm = true) (hK : X.K = G.K) : CallR X (.type "list") (rList G.K) := by
  have := call_list_of (X := X)
  rw [hK] at this
  exact (call_listS hc).or this
theorem cd_list {mk : Bool} : CallD G (rList G.K) (bList mk) := by
  intro c xs us Q w ru h
  have seq : ∀ u, RepVs c [u] xs → wpM ((M.look fun W => seqOf W u).bind fun p => newL mk p.2) c.W (QV c Q) (QE G c) → (∃ p ys, xs = [.ref p] ∧ (SqL G.K c.H p ys ∨ SqT G.K c.H p ys) ∧ ∀ l, c.H l = none → Q (.ref l) (upd c.H l (.lst ys))) := fun u ru h => by
    obtain ⟨x, rfl, r⟩ := vs1 ru
    obtain ⟨⟨t, ys⟩, e, q⟩ := wpM_look (wpM_bind.mp h)
    obtain ⟨a, vs, rfl, h1, r1⟩ := seqOf_ok w r e
    refine ⟨a, vs, rfl, ?_, newL_ok w r1 q⟩
    cases t with
    | true => exact .inr (SqT.of h1)
    | false => exact .inl (SqL.of h1)
  match us, ru, h with
  | [], _, h => exact h.elim
  | [.r l], ru, h => exact .inr (seq _ ru h)
  | [.d y], ru, h =>
    cases y
    case str z =>
      obtain ⟨x, rfl, r⟩ := vs1 ru
      cases r
      obtain ⟨hz, q⟩ := wpM_guard (wpM_bind.mp h)
      exact .inl ⟨z, rfl, hz, newL_ok w (chars_rep z.cps.toList) q⟩
    case frz ys =>
      obtain ⟨x, rfl, r⟩ := vs1 ru
      obtain ⟨a, o, vs, rfl, h1, _, h2⟩ := r
      exact .inr ⟨a, vs, rfl, .inl (.inl (.inr ⟨o, h1⟩)), newL_ok w (repL_vs h2) h⟩
    all_goals exact .inr (seq _ ru h)
  | .r _ :: _ :: _, _, h => exact h.elim
  | .d y :: _ :: _, _, h => cases y <;> exact h.elim
/-- tuple(x) -/
def bTuple : List RV → M RV
  | [u] => (M.look fun W => seqOf W u).bind fun p => if p.1 then M.ret u else newT p.2
  | _ => M.fail
abbrev rTuple (K : PySem.W.Frag) : List V → Hp → VK → Prop := fun xs H Q => ∃ p ys, xs = [.ref p] ∧ ((SqL K H p ys ∧ ∀ l, H l = none → Q (.ref l) (upd H l (.tup ys))) ∨ (SqT K H p ys ∧ Q (.ref p) H))
theorem call_bTuple {X : Cx} (hK : X.K = G.K) : CallR X (.type "tuple") (rTuple G.K) := by
  have := call_tuple_of (X := X)
  rw [hK] at this
  exact this
theorem cd_tuple : CallD G (rTuple G.K) bTuple := by
  intro c xs us Q w ru h
  match us, ru, h with
  | [], _, h => exact h.elim
  | [u], ru, h =>
    obtain ⟨x, rfl, r⟩ := vs1 ru
    obtain ⟨⟨t, ys⟩, e, q⟩ := wpM_look (wpM_bind.mp h)
    obtain ⟨a, vs, rfl, h1, r1⟩ := seqOf_ok w r e
    cases t with
    | true => exact ⟨a, vs, rfl, .inr ⟨SqT.of h1, QV.here (v := u) q w r⟩⟩
    | false => exact ⟨a, vs, rfl, .inl ⟨SqL.of h1, newT_ok w r1 q⟩⟩
  | _ :: _ :: _, _, h => exact h.elim
/-- sum(a list of ints), all(a list of truths) -/
def intsL : List RV → Option (List Int)
  | [] => some []
  | .d (.int i) :: r => (intsL r).map (i :: ·)
  | _ => none
theorem intsL_ok : ∀ {us : List RV} {vs : List V} {ns : List Int}, intsL us = some ns → RepVs c us vs → vs = ns.map V.int
  | [], _, _, h, .nil => by simp [intsL] at h; subst h; rfl
  | u :: us, _, ns, h, .cons (b := x) (l₂ := xs) q t => by
    cases u with
    | r l => simp [intsL] at h
    | d y =>
      cases y <;> simp [intsL] at h
      case int i =>
        obtain ⟨ns', e, rfl⟩ := h
        cases q
        rw [intsL_ok e t]
        rfl
def blsL : List RV → Option (List Bool)
  | [] => some []
  | .d (.bl i) :: r => (blsL r).map (i :: ·)
  | _ => none
theorem blsL_ok : ∀ {us : List RV} {vs : List V} {ns : List Bool}, blsL us = some ns → RepVs c us vs → vs = ns.map V.bl
  | [], _, _, h, .nil => by simp [blsL] at h; subst h; rfl
  | u :: us, _, ns, h, .cons (b := x) (l₂ := xs) q t => by
    cases u with
    | r l => simp [blsL] at h
    | d y =>
      cases y <;> simp [blsL] at h
      case bl i =>
        obtain ⟨ns', e, rfl⟩ := h
        cases q
        rw [blsL_ok e t]
        rfl
def strsL : List RV → Option (List Str)
  | [] => some []
  | .d (.str i) :: r => (strsL r).map (i :: ·)
  | _ => none
theorem strsL_ok : ∀ {us : List RV} {vs : List V} {ns : List Str}, strsL us = some ns → RepVs c us vs → vs = ns.map V.str
  | [], _, _, h, .nil => by simp [strsL] at h; subst h; rfl
  | u :: us, _, ns, h, .cons (b := x) (l₂ := xs) q t => by
    cases u with
    | r l => simp [strsL] at h
    | d y =>
      cases y <;> simp [strsL] at h
      case str i =>
        obtain ⟨ns', e, rfl⟩ := h
        cases q
        rw [strsL_ok e t]
        rfl
def bSum : List RV → M RV
  | [u] => (M.look fun W => (seqOf W u).bind fun p => if p.1 then none else intsL p.2).bind fun ns => M.ret (.d (.int ns.sum))
  | _ => M.fail
theorem call_bSum {X : Cx} (hc : X.calm = true) (hK : X.K = G.K) : CallR X (.builtin "sum") (rSum G.K) := by
  have := cr_sum hc
  rw [hK] at this
  exact this
theorem cd_sum : CallD G (rSum G.K) bSum := by
  intro c xs us Q w ru h
  match us, ru, h with
  | [], _, h => exact h.elim
  | [u], ru, h =>
    obtain ⟨x, rfl, r⟩ := vs1 ru
    obtain ⟨ns, e, q⟩ := wpM_look (wpM_bind.mp h)
    simp only [Option.bind_eq_some_iff] at e
    obtain ⟨⟨t, ys⟩, e1, e2⟩ := e
    obtain ⟨a, vs, rfl, h1, r1⟩ := seqOf_ok w r e1
    cases t with
    | true => simp at e2
    | false =>
      simp at e2
      rw [intsL_ok e2 r1] at h1
      exact ⟨a, ns, rfl, SqL.of h1, QV.here (v := .d (.int ns.sum)) q w rfl⟩
  | _ :: _ :: _, _, h => exact h.elim
def bAll : List RV → M RV
  | [u] => (M.look fun W => (seqOf W u).bind fun p => if p.1 then none else blsL p.2).bind fun ns => M.ret (.d (.bl (ns.all id)))
  | _ => M.fail
theorem call_bAll {X : Cx} (hc : X.calm = true) (hK : X.K = G.K) : CallR X (.builtin "all") (rAll G.K) := by
  have := cr_all hc
  rw [hK] at this
  exact this
theorem cd_all : CallD G (rAll G.K) bAll := by
  intro c xs us Q w ru h
  match us, ru, h with
  | [], _, h => exact h.elim
  | [u], ru, h =>
    obtain ⟨x, rfl, r⟩ := vs1 ru
    obtain ⟨ns, e, q⟩ := wpM_look (wpM_bind.mp h)
    simp only [Option.bind_eq_some_iff] at e
    obtain ⟨⟨t, ys⟩, e1, e2⟩ := e
    obtain ⟨a, vs, rfl, h1, r1⟩ := seqOf_ok w r e1
    cases t with
    | true => simp at e2
    | false =>
      simp at e2
      rw [blsL_ok e2 r1] at h1
      exact ⟨a, ns, rfl, SqL.of h1, QV.here (v := .d (.bl (ns.all id))) q w rfl⟩
  | _ :: _ :: _, _, h => exact h.elim
/-- ord(one sign); int(an int, a truth) -/
def bOrd : List RV → M RV
  | [.d (.str x)] => (M.guard (x.length = 1)).bind fun _ => M.ret (.d (.int (x.cps.getD 0 0 : Nat)))
  | _ => M.fail
theorem cd_ord : CallD G (fun xs H Q => ∃ x, xs = [.str x] ∧ x.length = 1 ∧ Q (.int (x.cps.getD 0 0 : Nat)) H) bOrd := by
  intro c xs us Q w ru h
  match us, ru, h with
  | [], _, h => exact h.elim
  | [.r _], _, h => exact h.elim
  | [.d y], ru, h =>
    cases y <;> try exact h.elim
    case str z =>
      obtain ⟨x, rfl, r⟩ := vs1 ru
      cases r
      obtain ⟨hz, q⟩ := wpM_guard (wpM_bind.mp h)
      exact ⟨z, rfl, hz, QV.here (v := .d (.int (z.cps.getD 0 0 : Nat))) q w rfl⟩
  | .r _ :: _ :: _, _, h => exact h.elim
  | .d y :: _ :: _, _, h => cases y <;> exact h.elim
def bInt : List RV → M RV
  | [.d (.int i)] => M.ret (.d (.int i))
  | [.d (.bl k)] => M.ret (.d (.int (if k then 1 else 0)))
  | _ => M.fail
theorem cd_int : CallD G (fun xs H Q => (∃ i, xs = [.int i] ∧ Q (.int i) H) ∨ ∃ k, xs = [.bl k] ∧ Q (.int (if k then 1 else 0)) H) bInt := by
  intro c xs us Q w ru h
  match us, ru, h with
  | [], _, h => exact h.elim
  | [.r _], _, h => exact h.elim
  | [.d y], ru, h =>
    cases y <;> try exact h.elim
    case int i =>
      obtain ⟨x, rfl, r⟩ := vs1 ru
      cases r
      exact .inl ⟨i, rfl, QV.here (v := .d (.int i)) h w rfl⟩
    case bl k =>
      obtain ⟨x, rfl, r⟩ := vs1 ru
      cases r
      exact .inr ⟨k, rfl, QV.here (v := .d (.int (if k then 1 else 0))) h w rfl⟩
  | .r _ :: _ :: _, _, h => exact h.elim
  | .d y :: _ :: _, _, h => cases y <;> exact h.elim
/-! ### methods of lists that may change -/
def MthD (G : Gh) (r : V → List V → Hp → VK → Prop) (f : RV → List RV → M RV) : Prop := ∀ (c : Cf) (x : V) (u : RV) (xs : List V) (us : List RV) (Q : VK), WOk c → RepRV c u x → RepVs c us xs → wpM (f u us) c.W (QV c Q) (QE G c) → r x xs c.H Q
/-- the items at a label that may change -/
def lstAt (W : Wd) : RV → Option (Nat × List RV)
  | .r l => match W[l]? with
    | some (.lst xs) => some (l, xs)
    | _ => none
  | _ => none
theorem lstAt_ok {u : RV} {x : V} {l : Nat} {xs : List RV} (w : WOk c) (r : RepRV c u x) (h : lstAt c.W u = some (l, xs)) : x = .ref (c.ren l) ∧ c.W[l]? = some (.lst xs) ∧ ∃ vs, c.H (c.ren l) = some (.lst vs) ∧ RepVs c xs vs := by
  cases u with
  | d y => simp [lstAt] at h
  | r k =>
    obtain ⟨rfl, hl⟩ := r
    simp only [lstAt] at h
    cases e : c.W[k]? with
    | none => rw [e] at h; simp at h
    | some o =>
      rw [e] at h
      cases o with
      | fz y => simp at h
      | dK _ => simp at h
      | dT _ => simp at h
      | ins _ _ => simp at h
      | tbl _ _ => simp at h
      | lst ys =>
        simp at h
        obtain ⟨rfl, rfl⟩ := h
        obtain ⟨vs, h1, h2⟩ := w.obj k _ e
        exact ⟨rfl, e, vs, h1, h2⟩
def setAt (l : Nat) (m : MO) : M Unit := fun W => some (.ok (), W.set l m)
theorem put_ok {l : Nat} {xs ys : List RV} {vs : List V} {v : RV} {x : V} {Q : VK} {E : DX → Wd → Prop} (w : WOk c) (e : c.W[l]? = some (.lst xs)) (r : RepVs c ys vs) (rv : RepRV c v x) (h : wpM ((setAt l (.lst ys)).bind fun _ => M.ret v) c.W (QV c Q) E) : Q x (upd c.H (c.ren l) (.lst vs)) := by
  have ex : Ext c (c.put l (.lst vs) (.lst ys)) := Ext.put e trivial
  exact h x (c.put l (.lst vs) (.lst ys)) rfl ex (w.put e trivial ⟨vs, upd_same, RepVs.mono ex r⟩) (rv.mono ex)
def mAppend (u : RV) : List RV → M RV
  | [v] => (M.look fun W => lstAt W u).bind fun p => (M.guard (p.2.length < sizeLine)).bind fun _ => (setAt p.1 (.lst (p.2 ++ [v]))).bind fun _ => M.ret (.d .non)
  | _ => M.fail
theorem md_append : MthD G rAppend mAppend := by
  intro c x u xs us Q w r rs h
  match us, rs, h with
  | [], _, h => exact h.elim
  | [v], rs, h =>
    obtain ⟨y, rfl, ry⟩ := vs1 rs
    obtain ⟨⟨l, ys⟩, e, q⟩ := wpM_look (wpM_bind.mp h)
    obtain ⟨rfl, e2, vs, h1, r1⟩ := lstAt_ok w r e
    obtain ⟨hz, q⟩ := wpM_guard (wpM_bind.mp q)
    exact ⟨_, vs, y, rfl, rfl, h1, by rw [← paired_len r1]; exact hz, put_ok w e2 (paired_app r1 (.cons ry .nil)) (v := .d .non) rfl q⟩
  | _ :: _ :: _, _, h => exact h.elim
def mPop (u : RV) : List RV → M RV
  | [.d (.int i)] => (M.look fun W => (lstAt W u).bind fun p => (seqIndex? i p.2.length).bind fun k => (p.2[k]?).map fun y => (p, k, y)).bind fun z => (M.guard (-(2 ^ 63) ≤ i ∧ i < 2 ^ 63)).bind fun _ => (setAt z.1.1 (.lst (z.1.2.eraseIdx z.2.1))).bind fun _ => M.ret z.2.2
  | _ => M.fail
theorem md_pop : MthD G rPopAt mPop := by
  intro c x u xs us Q w r rs h
  match us, rs, h with
  | [], _, h => exact h.elim
  | [.r _], _, h => exact h.elim
  | [.d v], rs, h =>
    cases v <;> try exact h.elim
    case int i =>
      obtain ⟨y, rfl, ry⟩ := vs1 rs
      cases ry
      obtain ⟨⟨⟨l, ys⟩, k, z⟩, e, q⟩ := wpM_look (wpM_bind.mp h)
      simp only [Option.bind_eq_some_iff, Option.map_eq_some_iff] at e
      obtain ⟨⟨l', ys'⟩, e1, k', e2, z', e3, e4⟩ := e
      injection e4 with e5 e6
      injection e6 with e7 e8
      injection e5 with e9 e10
      subst e9 e10 e7 e8
      obtain ⟨rfl, e5, vs, h1, r1⟩ := lstAt_ok w r e1
      obtain ⟨⟨hi1, hi2⟩, q⟩ := wpM_guard (wpM_bind.mp q)
      obtain ⟨zv, h2, r2⟩ := paired_get r1 e3
      exact ⟨_, vs, i, k', zv, rfl, rfl, h1, hi1, hi2, by rw [← paired_len r1]; exact e2, h2, put_ok w e5 (paired_erase k' r1) r2 q⟩
  | .r _ :: _ :: _, _, h => exact h.elim
  | .d v :: _ :: _, _, h => cases v <;> exact h.elim
end
section
variable {ι : Type} {𝒳 : ι → Cx} {G : Gh} {e o : Expr} {Fa Fb : Env → M RV} {es : List Expr} {R : Env → M (List RV)}
/-- o.m(..) of a list -/
def evMth (f : RV → List RV → M RV) (Fo : Env → M RV) (R : Env → M (List RV)) (δ : Env) : M RV := (Fo δ).bind fun u => (M.look fun W => (seqOf W u).bind fun p => if p.1 then none else some ()).bind fun _ => (R δ).bind fun us => f u us
theorem de_mthL {id : String} {name : Str} {apos cpos : Pos} {r : V → List V → Hp → VK → Prop} {f : RV → List RV → M RV} (hK : ∀ i, (𝒳 i).K = G.K) (slot : Slot "list" name id) (hty : typeOf (.builtin id) = pure (.type "method_descriptor")) (hm : ∀ i, MtR (𝒳 i) id r) (hd : MthD G r f) (ho : DE 𝒳 G o Fa) (ha : DA 𝒳 G (e :: es) R)
    (hbase : ∀ i, attributeBase o name (𝒳 i).env (eval o (𝒳 i).env) = eval o (𝒳 i).env := by intro _; rfl)
    (hfew : ∀ i, ((backTo cpos (starEach (e :: es) (𝒳 i).env)).all (fun x => !x.1) && (backToKw cpos (keywordEach [] (𝒳 i).env)).all (fun x => x.1.isSome)
      && decide ((e :: es).length + ([] : List Keyword).length + (if ([] : List Keyword).isEmpty then 0 else 1) < 30)) = true := by intro _; rfl)
    (hline : (apos.endLine == cpos.line) = true := by rfl) (hs : ∀ i, starEach (e :: es) (𝒳 i).env = (false, eval e (𝒳 i).env) :: starEach es (𝒳 i).env := by intro _; rfl) (hplain : ∀ i, (backTo cpos (starEach es (𝒳 i).env)).any (·.1) = false := by intro _; rfl) :
    DE 𝒳 G (.Call (.Attribute o name apos) (e :: es) [] cpos) (evMth f Fa R) := by
  obtain ⟨to, po, ro⟩ := ho
  obtain ⟨ta, pa, ra⟩ := ha
  refine ⟨tBM G.K "list" r to ta, fun i => ?_, fun c σ δ Q s w h => ?_⟩
  · have := pe_bm PySem.F.plainAttrs_list slot hty (hm i) (po i) (pa i) (hbase i) (hfew i) hline (hs i) (hplain i)
    rw [hK i] at this
    exact this
  refine ro c σ δ _ s w (wpM_mono (wpM_bind.mp h) (fun u W1 h1 x1 c1 hw e1 w1 r1 => ?_) fun _ _ q => q)
  subst hw
  obtain ⟨_, e, q⟩ := wpM_look (wpM_bind.mp h1)
  simp only [Option.bind_eq_some_iff] at e
  obtain ⟨⟨t, xs⟩, e2, e3⟩ := e
  obtain ⟨a, vs, rfl, h3, _⟩ := seqOf_ok w1 r1 e2
  cases t with
  | true => simp at e3
  | false =>
    refine ⟨.inl ⟨rfl, vs, SqL.of h3⟩, ?_⟩
    refine ra c1 σ δ _ (s.mono e1) w1 (wpM_mono (wpM_bind.mp q) (fun us W2 h4 ys c2 hw e4 w2 r2 => ?_) fun _ _ q => q.mono e1)
    subst hw
    exact hd c2 _ u ys us Q w2 (r1.mono e4) r2 (wpM_mono h4 (fun _ _ q => (q.mono e1).mono e4) fun _ _ q => (q.mono e1).mono e4)
/-! ### methods of texts -/
def evMth1 (f : Str → RV → M RV) (Fo Fa : Env → M RV) (δ : Env) : M RV := (Fo δ).bind fun u => (M.opt (match u with | .d (.str s) => some s | _ => none)).bind fun s => (Fa δ).bind fun v => f s v
def Mth1D (G : Gh) (r : V → List V → Hp → VK → Prop) (f : Str → RV → M RV) : Prop := ∀ (c : Cf) (s : Str) (x : V) (u : RV) (Q : VK), WOk c → RepRV c u x → wpM (f s u) c.W (QV c Q) (QE G c) → r (.str s) [x] c.H Q
theorem de_mthS {id : String} {name : Str} {apos pos : Pos} {r : V → List V → Hp → VK → Prop} {f : Str → RV → M RV} (slot : Slot "str" name id) (ty : typeOf (.builtin id) = pure (.type "method_descriptor")) (hm : ∀ i, MtR (𝒳 i) id r) (hd : Mth1D G r f) (ho : DE 𝒳 G o Fa) (ha : DE 𝒳 G e Fb)
    (hs : ∀ i, starEach [e] (𝒳 i).env = [(false, eval e (𝒳 i).env)] := by intro _; rfl) (hbase : ∀ i, attributeBase o name (𝒳 i).env (eval o (𝒳 i).env) = eval o (𝒳 i).env := by intro _; rfl) (hline : (apos.endLine == pos.line) = true := by rfl) :
    DE 𝒳 G (.Call (.Attribute o name apos) [e] [] pos) (evMth1 f Fa Fb) := by
  obtain ⟨to, po, ro⟩ := ho
  obtain ⟨ta, pa, ra⟩ := ha
  refine ⟨_, fun i => pe_m1 slot ty (hm i) (po i) (pa i) (hs i) (hbase i) hline, fun c σ δ Q s w h => ?_⟩
  refine ro c σ δ _ s w (wpM_mono (wpM_bind.mp h) (fun u W1 h1 x1 c1 hw e1 w1 r1 => ?_) fun _ _ q => q)
  subst hw
  obtain ⟨z, e, q⟩ := wpM_opt (wpM_bind.mp h1)
  have eu : u = .d (.str z) := by
    cases u with
    | r l => simp at e
    | d y => cases y <;> simp at e; rw [e]
  subst eu
  cases r1
  refine ⟨⟨z, rfl⟩, ?_⟩
  refine ra c1 σ δ _ (s.mono e1) w1 (wpM_mono (wpM_bind.mp q) (fun v W2 h2 x2 c2 hw e2 w2 r2 => ?_) fun _ _ q => q.mono e1)
  subst hw
  exact hd c2 z x2 v Q w2 r2 (wpM_mono h2 (fun _ _ q => (q.mono e1).mono e2) fun _ _ q => (q.mono e1).mono e2)
def mJoin (s : Str) (u : RV) : M RV := (M.look fun W => (seqOf W u).bind fun p => strsL p.2).bind fun ys => (M.guard ((ys.map (·.length)).sum + ys.length * s.length ≤ 16777216)).bind fun _ => M.ret (.d (.str (Txt.join s ys)))
abbrev rJoin (K : PySem.W.Frag) : V → List V → Hp → VK → Prop := fun x xs H Q => ∃ a p, ∃ ys : List Str, x = .str a ∧ xs = [.ref p] ∧ (SqL K H p (ys.map V.str) ∨ SqT K H p (ys.map V.str)) ∧ (ys.map (·.length)).sum + ys.length * a.length ≤ 16777216 ∧ Q (.str (Txt.join a ys)) H
theorem mt_bJoin {X : Cx} (hK : X.K = G.K) : MtR X "str.join" (rJoin G.K) := by
  have := mt_join (X := X)
  rw [hK] at this
  exact this
theorem md_join : Mth1D G (rJoin G.K) mJoin := by
  intro c s x u Q w r h
  obtain ⟨ys, e, q⟩ := wpM_look (wpM_bind.mp h)
  simp only [Option.bind_eq_some_iff] at e
  obtain ⟨⟨t, xs⟩, e1, e2⟩ := e
  obtain ⟨a, vs, rfl, h1, r1⟩ := seqOf_ok w r e1
  obtain ⟨hz, q⟩ := wpM_guard (wpM_bind.mp q)
  have ev := strsL_ok e2 r1
  subst ev
  refine ⟨s, a, ys, rfl, rfl, ?_, hz, QV.here (v := .d (.str (Txt.join s ys))) q w rfl⟩
  cases t with
  | true => exact .inr (SqT.of h1)
  | false => exact .inl (SqL.of h1)
def mCount (s : Str) (u : RV) : M RV := match u with
  | .d (.str b) => M.ret (.d (.int (Txt.count s b)))
  | _ => M.fail
theorem md_count : Mth1D G (fun x xs H Q => ∃ a b, x = .str a ∧ xs = [.str b] ∧ Q (.int (Txt.count a b)) H) mCount := by
  intro c s x u Q w r h
  cases u with
  | r l => exact h.elim
  | d y =>
    cases y <;> try exact h.elim
    case str b =>
      cases r
      exact ⟨s, b, rfl, rfl, QV.here (v := .d (.int (Txt.count s b))) h w rfl⟩
end
end DL
set_option Elab.async false
set_option linter.all false
set_option maxRecDepth 100000
set_option maxHeartbeats 4000000
/-! DL8: targets, statements, while. -/
namespace DL
open PySem PySem.Spec PyProof.Rows L2
/-- how a statement ends -/
inductive Fl where
  | nx | rt (v : RV) | bk | ct
def QS (c : Cf) (D : Ends) : Fl × Env → Wd → Prop := fun p W' => match p.1 with
  | .nx => ∀ σ' c', c'.W = W' → Ext c c' → WOk c' → SOk σ' p.2 c' → D.nx σ' c'.H
  | .bk => ∀ σ' c', c'.W = W' → Ext c c' → WOk c' → SOk σ' p.2 c' → D.bk σ' c'.H
  | .ct => ∀ σ' c', c'.W = W' → Ext c c' → WOk c' → SOk σ' p.2 c' → D.ct σ' c'.H
  | .rt v => ∀ x c', c'.W = W' → Ext c c' → WOk c' → RepRV c' v x → D.rt x c'.H
theorem QS.mono {c c1 : Cf} {D : Ends} {p : Fl × Env} {W : Wd} (e : Ext c c1) (h : QS c D p W) : QS c1 D p W := by
  obtain ⟨f, δ⟩ := p
  cases f
  case nx => exact fun σ' c' hw e' w s => h σ' c' hw (e.trans e') w s
  case bk => exact fun σ' c' hw e' w s => h σ' c' hw (e.trans e') w s
  case ct => exact fun σ' c' hw e' w s => h σ' c' hw (e.trans e') w s
  case rt v => exact fun x c' hw e' w r => h x c' hw (e.trans e') w r
def RdS (G : Gh) (t : TS) (F : Env → M (Fl × Env)) : Prop := ∀ (c : Cf) (σ : L2.St) (δ : Env) (D : Ends), SOk σ δ c → WOk c → wpM (F δ) c.W (QS c D) (QE G c) → t D σ c.H
/-- a target: it sets slots of vs alone -/
def RdG (G : Gh) (g : TG) (vs : List Nat) (F : RV → Env → M Env) : Prop := ∀ (c : Cf) (v : V) (u : RV) (σ : L2.St) (δ : Env) (Q : L2.St → Hp → Prop), SOk σ δ c → WOk c → RepRV c u v →
  wpM (F u δ) c.W (fun δ' W' => ∀ σ' c', c'.W = W' → Ext c c' → WOk c' → SOk σ' δ' c' → σ'.length = σ.length → (∀ k, k ∉ vs → σ'[k]? = σ[k]?) → Q σ' c'.H) (QE G c) → g v σ c.H Q
def RdGs (G : Gh) (g : TGs) (vs : List Nat) (F : List RV → Env → M Env) : Prop := ∀ (c : Cf) (xs : List V) (us : List RV) (σ : L2.St) (δ : Env) (Q : L2.St → Hp → Prop), SOk σ δ c → WOk c → RepVs c us xs →
  wpM (F us δ) c.W (fun δ' W' => ∀ σ' c', c'.W = W' → Ext c c' → WOk c' → SOk σ' δ' c' → σ'.length = σ.length → (∀ k, k ∉ vs → σ'[k]? = σ[k]?) → Q σ' c'.H) (QE G c) → g xs σ c.H Q
section
variable {ι : Type} {𝒳 : ι → Cx} {G : Gh} {e a b tg : Expr} {Fe Fa Fb : Env → M RV} {pos : Pos} {es : List Expr} {R : Env → M (List RV)} {vs : List Nat} {Tc : Env → M Bool} {st : Stmt} {sts ss1 ss2 : List Stmt} {S1 S2 : Env → M (Fl × Env)}
def DS (𝒳 : ι → Cx) (G : Gh) (st : Stmt) (F : Env → M (Fl × Env)) : Prop := ∃ t, (∀ i, PS (𝒳 i) st t) ∧ RdS G t F
def DSs (𝒳 : ι → Cx) (G : Gh) (st : List Stmt) (F : Env → M (Fl × Env)) : Prop := ∃ t, (∀ i, PSs (𝒳 i) st t) ∧ RdS G t F
def DG (𝒳 : ι → Cx) (G : Gh) (tg : Expr) (vs : List Nat) (F : RV → Env → M Env) : Prop := ∃ g, (∀ i, PG (𝒳 i) tg g) ∧ RdG G g vs F
def DGs (𝒳 : ι → Cx) (G : Gh) (ts : List Expr) (vs : List Nat) (F : List RV → Env → M Env) : Prop := ∃ g, (∀ i, PGs (𝒳 i) ts g) ∧ RdGs G g vs F
theorem DS.never : DS 𝒳 G st (fun _ => M.fail) := ⟨tNever, fun _ => ps_never, fun _ _ _ _ _ _ h => h.elim⟩
/-! ### targets -/
def gtName (i : Nat) (u : RV) (δ : Env) : M Env := M.ret (δ.set i (some u))
theorem dg_name (i : Nat) {x : Str} (hN : ∀ k, (𝒳 k).N.Nodup) (hi : ∀ k, (𝒳 k).N[i]? = some x := by intro _; rfl) (hx : ∀ k, Loc (𝒳 k).env.scope x := by intro _; first | exact Or.inl rfl | exact Or.inr rfl)
    (hf : ∀ k, (𝒳 k).fn x = true ∨ (𝒳 k).env.scope.names.lookup x = some .local := by intro _; first | exact .inl rfl | exact .inr rfl) : DG 𝒳 G (.Name x pos) [i] (gtName i) := by
  refine ⟨gName i, fun k => pg_name (hN k) (hi k) (hx k) (hf k), fun c v u σ δ Q s w r h => ?_⟩
  refine h (σ.set i (some v)) c rfl (Ext.refl c) w (s.set i r) (by rw [List.length_set]) fun k hk => ?_
  rw [List.getElem?_set_ne (fun z => hk (by rw [z]; exact List.mem_singleton_self k))]
def gtNil (us : List RV) (δ : Env) : M Env := match us with | [] => M.ret δ | _ => M.fail
def gtCons (F : RV → Env → M Env) (R : List RV → Env → M Env) (us : List RV) (δ : Env) : M Env := match us with | [] => M.fail | u :: us => (F u δ).bind fun δ' => R us δ'
theorem dgs_nil : DGs 𝒳 G [] [] gtNil := by
  refine ⟨_, fun _ => pgs_nil, fun c xs us σ δ Q s w r h => ?_⟩
  cases r with
  | nil => exact ⟨rfl, h σ c rfl (Ext.refl c) w s rfl fun _ _ => rfl⟩
  | cons _ _ => exact h.elim
theorem dgs_cons {vs2 : List Nat} {F : RV → Env → M Env} {Fr : List RV → Env → M Env} (h1 : DG 𝒳 G e vs F) (h2 : DGs 𝒳 G es vs2 Fr) (hs : ∀ i, (assignEach (e :: es) (𝒳 i).env).map (·.2) = assign e (𝒳 i).env :: (assignEach es (𝒳 i).env).map (·.2) := by intro _; rfl) : DGs 𝒳 G (e :: es) (vs ++ vs2) (gtCons F Fr) := by
  obtain ⟨g, pg, rg⟩ := h1
  obtain ⟨g2, pg2, rg2⟩ := h2
  refine ⟨_, fun i => pgs_cons (pg i) (pg2 i) (hs i), fun c xs us σ δ Q s w r h => ?_⟩
  cases r with
  | nil => exact h.elim
  | cons r1 r2 =>
    refine ⟨_, _, rfl, rg c _ _ σ δ _ s w r1 (wpM_mono (wpM_bind.mp h) (fun δ' W1 h1 σ' c1 hw e1 w1 s1 l1 k1 => ?_) fun _ _ q => q)⟩
    subst hw
    refine rg2 c1 _ _ σ' δ' Q s1 w1 (RepVs.mono e1 r2) (wpM_mono h1 (fun δ2 W2 h2 σ2 c2 hw e2 w2 s2 l2 k2 => ?_) fun _ _ q => q.mono e1)
    exact h2 σ2 c2 hw (e1.trans e2) w2 s2 (l2.trans l1) fun k hk => by
      rw [k2 k (fun z => hk (List.mem_append_right _ z)), k1 k (fun z => hk (List.mem_append_left _ z))]
theorem PG.or {X : Cx} {t t' : TG} (h : PG X tg t) (h' : PG X tg t') : PG X tg (fun v σ H Q => t v σ H Q ∨ t' v σ H Q) :=
  ⟨fun pins s σ H v u Q I r hw => hw.elim (h.run pins s σ H v u Q I r) (h'.run pins s σ H v u Q I r)⟩
def gtUnp (n : Nat) (F : List RV → Env → M Env) (u : RV) (δ : Env) : M Env := (M.look fun W => seqOf W u).bind fun p => (M.guard (p.2.length = n)).bind fun _ => F p.2 δ
theorem dg_tup {k n : Nat} {F : List RV → Env → M Env} (hK : ∀ i, (𝒳 i).K = G.K) (hc : ∀ i, (𝒳 i).calm = true) (h : DGs 𝒳 G es vs F) (hn : ∀ i, (assignEach es (𝒳 i).env).length = n := by intro _; rfl) (hst : ∀ i, (assignEach es (𝒳 i).env).findIdx? (·.1) = none := by intro _; rfl) :
    DG 𝒳 G (.Tuple es k pos) vs (gtUnp n F) := by
  obtain ⟨g, pg, rg⟩ := h
  refine ⟨fun v σ H Q => gTup G.K n g v σ H Q ∨ gUnl G.K n g v σ H Q, fun i => ?_, fun c v u σ δ Q s w r h => ?_⟩
  · have h1 := pg_tup (pos := pos) (k := k) (hc i) (pg i) (hn i) (hst i)
    have h2 := pg_unl (pos := pos) (k := k) (hc i) (pg i) (hn i) (hst i)
    rw [hK i] at h1 h2
    exact PG.or h1 h2
  · obtain ⟨⟨t, xs⟩, e, q⟩ := wpM_look (wpM_bind.mp h)
    obtain ⟨hl, q⟩ := wpM_guard (wpM_bind.mp q)
    obtain ⟨a, ws, rfl, h1, r1⟩ := seqOf_ok w r e
    have hl2 : ws.length = n := by rw [← paired_len r1]; exact hl
    have fin := rg c ws xs σ δ Q s w r1 q
    cases t with
    | true => exact .inl ⟨a, ws, rfl, SqT.of h1, hl2, fin⟩
    | false => exact .inr ⟨a, ws, rfl, SqL.of h1, hl2, fin⟩
def gtSub (Fo Fi : Env → M RV) (u : RV) (δ : Env) : M Env := (Fo δ).bind fun o => (Fi δ).bind fun i => (asI i).bind fun k => (M.look fun W => (lstAt W o).bind fun p => (ixN p.2.length k).map fun j => (p, j)).bind fun z => (setAt z.1.1 (.lst (z.1.2.set z.2 u))).bind fun _ => M.ret δ
theorem dg_sub (ha : DE 𝒳 G a Fa) (hb : DE 𝒳 G b Fb) (hv : ∀ i, ∀ v, assign (.Subscript a b pos) (𝒳 i).env v = (do
      let ov ← holding [v] (eval a (𝒳 i).env)
      let iv ← holding [v, ov] (eval b (𝒳 i).env)
      standAt pos
      holding [v, ov, iv] (setItem ov iv v)
      release [v, ov, iv] []) := by intro _ _; rfl) : DG 𝒳 G (.Subscript a b pos) [] (gtSub Fa Fb) := by
  obtain ⟨ta, pa, ra⟩ := ha
  obtain ⟨tb, pb, rb⟩ := hb
  refine ⟨_, fun i => pg_sub (pa i) (pb i) set_list (hv i), fun c v u σ δ Q s w r h => ?_⟩
  refine ra c σ δ _ s w (wpM_mono (wpM_bind.mp h) (fun o W1 h1 x1 c1 hw e1 w1 r1 => ?_) fun _ _ q => q)
  subst hw
  refine rb c1 σ δ _ (s.mono e1) w1 (wpM_mono (wpM_bind.mp h1) (fun i W2 h2 x2 c2 hw e2 w2 r2 => ?_) fun _ _ q => q.mono e1)
  subst hw
  obtain ⟨k, rfl, q⟩ := asI_ok (wpM_bind.mp h2)
  obtain ⟨⟨⟨l, ys⟩, j⟩, e3, q⟩ := wpM_look (wpM_bind.mp q)
  simp only [Option.bind_eq_some_iff, Option.map_eq_some_iff] at e3
  obtain ⟨⟨l', ys'⟩, e4, j', e5, e6⟩ := e3
  injection e6 with e7 e8
  injection e7 with e9 e10
  subst e9 e10 e8
  obtain ⟨rfl, e7, ws, h3, r3⟩ := lstAt_ok w2 (r1.mono e2) e4
  cases r2
  refine ⟨_, ws, k, j', rfl, rfl, h3, by rw [← paired_len r3]; exact e5, ?_⟩
  have ex : Ext c2 (c2.put l' (.lst (ws.set j' v)) (.lst (ys'.set j' u))) := Ext.put e7 trivial
  exact q σ (c2.put l' (.lst (ws.set j' v)) (.lst (ys'.set j' u))) rfl ((e1.trans e2).trans ex) (w2.put e7 trivial ⟨_, upd_same, RepVs.mono ex (paired_set ((r.mono e1).mono e2) j' r3)⟩) (((s.mono e1).mono e2).mono ex) rfl fun _ _ => rfl
/-! ### statements -/
def evNext (δ : Env) : M (Fl × Env) := M.ret (.nx, δ)
def evSeq (S1 S2 : Env → M (Fl × Env)) (δ : Env) : M (Fl × Env) := (S1 δ).bind fun p => match p.1 with | .nx => S2 p.2 | f => M.ret (f, p.2)
theorem RdS.seq {t u : TS} (h1 : RdS G t S1) (h2 : RdS G u S2) : RdS G (tSeq t u) (evSeq S1 S2) := by
  intro c σ δ D s w h
  refine h1 c σ δ _ s w (wpM_mono (wpM_bind.mp h) (fun p W1 q => ?_) fun _ _ q => q)
  obtain ⟨f, δ1⟩ := p
  cases f with
  | nx =>
    intro σ' c' hw e1 w1 s1
    subst hw
    exact h2 c' σ' δ1 D s1 w1 (wpM_mono q (fun _ _ q => q.mono e1) fun _ _ q => q.mono e1)
  | rt v => exact q
  | bk => exact q
  | ct => exact q
theorem dss_nil : DSs 𝒳 G [] evNext := ⟨_, fun _ => pss_nil, fun c σ δ D s w h => h σ c rfl (Ext.refl c) w s⟩
theorem dss_cons (h1 : DS 𝒳 G st S1) (h2 : DSs 𝒳 G sts S2) : DSs 𝒳 G (st :: sts) (evSeq S1 S2) := by
  obtain ⟨t, pt, rt⟩ := h1
  obtain ⟨u, pu, ru⟩ := h2
  exact ⟨_, fun i => pss_cons (pt i) (pu i), rt.seq ru⟩
theorem dss_one (h1 : DS 𝒳 G st S1) : DSs 𝒳 G [st] S1 := let ⟨t, pt, rt⟩ := h1; ⟨_, fun i => pss_one (pt i), rt⟩
theorem ds_pass : DS 𝒳 G (.Pass pos) evNext := ⟨_, fun _ => ps_pass, fun c σ δ D s w h => h σ c rfl (Ext.refl c) w s⟩
theorem ds_break : DS 𝒳 G (.Break pos) (fun δ => M.ret (.bk, δ)) := ⟨_, fun _ => ps_break, fun c σ δ D s w h => h σ c rfl (Ext.refl c) w s⟩
theorem ds_cont : DS 𝒳 G (.Continue pos) (fun δ => M.ret (.ct, δ)) := ⟨_, fun _ => ps_continue, fun c σ δ D s w h => h σ c rfl (Ext.refl c) w s⟩
def evDrop (F : Env → M RV) (δ : Env) : M (Fl × Env) := (F δ).bind fun _ => M.ret (.nx, δ)
theorem ds_expr (h : DE 𝒳 G e Fe) (hs : ∀ i, swapsWith e none pos.line (𝒳 i).env = pure false := by intro _; rfl) : DS 𝒳 G (.Expr e pos) (evDrop Fe) := by
  obtain ⟨t, p, r⟩ := h
  refine ⟨_, fun i => ps_expr (p i) (hs i), fun c σ δ D s w h => ?_⟩
  refine r c σ δ _ s w (wpM_mono (wpM_bind.mp h) (fun u W1 h1 x1 c1 hw e1 w1 r1 => ?_) fun _ _ q => q)
  exact h1 σ c1 hw e1 w1 (s.mono e1)
def evRet (F : Env → M RV) (δ : Env) : M (Fl × Env) := (F δ).bind fun v => M.ret (.rt v, δ)
theorem ds_ret (h : DE 𝒳 G e Fe) : DS 𝒳 G (.Return (some e) pos) (evRet Fe) := by
  obtain ⟨t, p, r⟩ := h
  refine ⟨_, fun i => ps_ret (p i), fun c σ δ D s w h => ?_⟩
  exact r c σ δ _ s w (wpM_mono (wpM_bind.mp h) (fun u W1 h1 x1 c1 hw e1 w1 r1 => h1 x1 c1 hw e1 w1 r1) fun _ _ q => q)
theorem ds_retN : DS 𝒳 G (.Return none pos) (fun δ => M.ret (.rt (.d .non), δ)) := ⟨_, fun _ => ps_retN, fun c σ δ D s w h => h .non c rfl (Ext.refl c) w rfl⟩
def evAsg (F : Env → M RV) (T : RV → Env → M Env) (δ : Env) : M (Fl × Env) := (F δ).bind fun v => (T v δ).bind fun δ' => M.ret (.nx, δ')
theorem RdE.asg {te : TE} {g : TG} {T : RV → Env → M Env} (re : RdE G te Fe) (rg : RdG G g vs T) : RdS G (tAsg te g) (evAsg Fe T) := by
  intro c σ δ D s w h
  refine re c σ δ _ s w (wpM_mono (wpM_bind.mp h) (fun u W1 h1 x1 c1 hw e1 w1 r1 => ?_) fun _ _ q => q)
  subst hw
  exact rg c1 x1 u σ δ _ (s.mono e1) w1 r1 (wpM_mono (wpM_bind.mp h1) (fun δ' W2 h2 σ' c2 hw e2 w2 s2 _ _ => h2 σ' c2 hw (e1.trans e2) w2 s2) fun _ _ q => q.mono e1)
theorem ds_asg {T : RV → Env → M Env} (he : DE 𝒳 G e Fe) (hg : DG 𝒳 G tg vs T) (hs : ∀ i, swapsWithSole [tg] e pos.line (𝒳 i).env = pure false := by intro _; rfl) (hw : ∀ i, swappedStores [tg] e (𝒳 i).env = pure none := by intro _; rfl)
    (h1 : ∀ i, (assignEach [tg] (𝒳 i).env).map (·.2) = [assign tg (𝒳 i).env] := by intro _; rfl) : DS 𝒳 G (.Assign [tg] e pos) (evAsg Fe T) := by
  obtain ⟨t, p, r⟩ := he
  obtain ⟨g, pg, rg⟩ := hg
  exact ⟨_, fun i => ps_asg (p i) (pg i) (hs i) (hw i) (h1 i), r.asg rg⟩
/-- a, b = x, y with names: stored from the right -/
def evPar (i j : Nat) (R : Env → M (List RV)) (δ : Env) : M (Fl × Env) := (R δ).bind fun us => match us with | [u, v] => M.ret (.nx, (δ.set i (some u)).set j (some v)) | _ => M.fail
theorem ds_par (i j : Nat) {x y : Str} {px py pt : Pos} {kt k2 pt2} (hc : ∀ k, (𝒳 k).calm = true) (hN : ∀ k, (𝒳 k).N.Nodup) (ha : DA 𝒳 G [a, b] R) (hi : ∀ k, (𝒳 k).N[i]? = some x := by intro _; rfl) (hj : ∀ k, (𝒳 k).N[j]? = some y := by intro _; rfl) (hij : i ≠ j := by decide)
    (hx : ∀ k, (𝒳 k).env.scope.names.lookup x = some .local := by intro _; rfl) (hy : ∀ k, (𝒳 k).env.scope.names.lookup y = some .local := by intro _; rfl)
    (hw : ∀ k, swappedStores [.Tuple [.Name x px, .Name y py] kt pt] (.Tuple [a, b] k2 pt2) (𝒳 k).env = pure (some [x, y]) := by intro _; rfl)
    (hs : ∀ k, swapsWithSole [.Tuple [.Name x px, .Name y py] kt pt] (.Tuple [a, b] k2 pt2) pos.line (𝒳 k).env = pure false := by intro _; rfl) : DS 𝒳 G (.Assign [.Tuple [.Name x px, .Name y py] kt pt] (.Tuple [a, b] k2 pt2) pos) (evPar i j R) := by
  obtain ⟨t, p, r⟩ := ha
  refine ⟨_, fun k => ps_par (hc k) (hN k) (hi k) (hj k) hij (hx k) (hy k) (p k) (hw k) (hs k), fun c σ δ D s w h => ?_⟩
  refine r c σ δ _ s w (wpM_mono (wpM_bind.mp h) (fun us W1 h1 xs c1 hw e1 w1 r1 => ?_) fun _ _ q => q)
  match us, r1, h1 with
  | [], _, h => exact h.elim
  | [_], _, h => exact h.elim
  | [u, v], r1, h =>
    obtain ⟨x1, x2, rfl, q1, q2⟩ := vs2 r1
    exact ⟨x1, x2, rfl, h _ c1 hw e1 w1 (((s.mono e1).set i q1).set j q2)⟩
  | _ :: _ :: _ :: _, _, h => exact h.elim
def evPar3 (i j l : Nat) (R : Env → M (List RV)) (δ : Env) : M (Fl × Env) := (R δ).bind fun us => match us with | [u, v, z] => M.ret (.nx, ((δ.set i (some u)).set j (some v)).set l (some z)) | _ => M.fail
theorem vs3 {c : Cf} {u v z : RV} {xs : List V} (r : RepVs c [u, v, z] xs) : ∃ x y t, xs = [x, y, t] ∧ RepRV c u x ∧ RepRV c v y ∧ RepRV c z t := by cases r with | cons h t => cases t with | cons h2 t => cases t with | cons h3 t => cases t; exact ⟨_, _, _, rfl, h, h2, h3⟩
theorem ds_par3 (i j l : Nat) {d : Expr} {x y z : Str} {px py pz pt : Pos} {kt k2 pt2} (hc : ∀ k, (𝒳 k).calm = true) (hN : ∀ k, (𝒳 k).N.Nodup) (ha : DA 𝒳 G [a, b, d] R) (hi : ∀ k, (𝒳 k).N[i]? = some x := by intro _; rfl) (hj : ∀ k, (𝒳 k).N[j]? = some y := by intro _; rfl) (hl : ∀ k, (𝒳 k).N[l]? = some z := by intro _; rfl)
    (hij : i ≠ j := by decide) (hil : i ≠ l := by decide) (hjl : j ≠ l := by decide)
    (hx : ∀ k, (𝒳 k).env.scope.names.lookup x = some .local := by intro _; rfl) (hy : ∀ k, (𝒳 k).env.scope.names.lookup y = some .local := by intro _; rfl) (hz : ∀ k, (𝒳 k).env.scope.names.lookup z = some .local := by intro _; rfl)
    (hw : ∀ k, swappedStores [.Tuple [.Name x px, .Name y py, .Name z pz] kt pt] (.Tuple [a, b, d] k2 pt2) (𝒳 k).env = pure (some [x, y, z]) := by intro _; rfl)
    (hs : ∀ k, swapsWithSole [.Tuple [.Name x px, .Name y py, .Name z pz] kt pt] (.Tuple [a, b, d] k2 pt2) pos.line (𝒳 k).env = pure false := by intro _; rfl) : DS 𝒳 G (.Assign [.Tuple [.Name x px, .Name y py, .Name z pz] kt pt] (.Tuple [a, b, d] k2 pt2) pos) (evPar3 i j l R) := by
  obtain ⟨t, p, r⟩ := ha
  refine ⟨_, fun k => ps_par3 (hc k) (hN k) (hi k) (hj k) (hl k) hij hil hjl (hx k) (hy k) (hz k) (p k) (hw k) (hs k), fun c σ δ D s w h => ?_⟩
  refine r c σ δ _ s w (wpM_mono (wpM_bind.mp h) (fun us W1 h1 xs c1 hw e1 w1 r1 => ?_) fun _ _ q => q)
  match us, r1, h1 with
  | [], _, h => exact h.elim
  | [_], _, h => exact h.elim
  | [_, _], _, h => exact h.elim
  | [u, v, z], r1, h =>
    obtain ⟨x1, x2, x3, rfl, q1, q2, q3⟩ := vs3 r1
    exact ⟨x1, x2, x3, rfl, h _ c1 hw e1 w1 ((((s.mono e1).set i q1).set j q2).set l q3)⟩
  | _ :: _ :: _ :: _ :: _, _, h => exact h.elim
/-- name op= e, ints -/
def evAug (i : Nat) (g : Int → Int → Int) (F : Env → M RV) (δ : Env) : M (Fl × Env) := (evVar i δ).bind fun u => (F δ).bind fun v => (M.opt (int2 u v)).bind fun p => M.ret (.nx, δ.set i (some (.d (.int (g p.1 p.2)))))
theorem ds_aug (i : Nat) {x : Str} {op : Operator} {g : Int → Int → Int} {pos' : Pos} (hN : ∀ k, (𝒳 k).N.Nodup) (hp : ∀ k, PIp (𝒳 k) op (ipI g)) (he : DE 𝒳 G e Fe) (hi : ∀ k, (𝒳 k).N[i]? = some x := by intro _; rfl) (hx : ∀ k, Loc (𝒳 k).env.scope x := by intro _; first | exact Or.inl rfl | exact Or.inr rfl)
    (hf : ∀ k, (𝒳 k).fn x = true ∨ (𝒳 k).env.scope.names.lookup x = some .local := by intro _; first | exact .inl rfl | exact .inr rfl) : DS 𝒳 G (.AugAssign (.Name x pos') op e pos) (evAug i g Fe) := by
  obtain ⟨t, p, r⟩ := he
  refine ⟨_, fun k => ps_aug (hN k) (hi k) (hx k) (p k) (hp k) (hf k), fun c σ δ D s w h => ?_⟩
  obtain ⟨u, e1, q⟩ := wpM_opt (wpM_bind.mp h)
  have e2 : δ[i]? = some (some u) := by
    cases z : δ[i]? with
    | none => rw [z] at e1; simp at e1
    | some y => rw [z] at e1; simp at e1; rw [e1]
  obtain ⟨v, h1, h2⟩ := s.get i u e2
  refine ⟨v, h1, r c σ δ _ s w (wpM_mono (wpM_bind.mp q) (fun u2 W1 q1 x1 c1 hw e3 w1 r1 => ?_) fun _ _ q => q)⟩
  obtain ⟨⟨m, n⟩, e4, q2⟩ := wpM_opt (wpM_bind.mp q1)
  obtain ⟨rfl, rfl⟩ := int2_ok e4
  exact ⟨m, n, h2, r1, q2 _ c1 hw e3 w1 ((s.mono e3).set (rv := .d (.int (g m n))) i rfl)⟩
def evIfS (T : Env → M Bool) (S1 S2 : Env → M (Fl × Env)) (δ : Env) : M (Fl × Env) := (T δ).bind fun b => if b then S1 δ else S2 δ
theorem ds_if {c : Expr} (hc : DT 𝒳 G c Tc) (h1 : DSs 𝒳 G ss1 S1) (h2 : DSs 𝒳 G ss2 S2) : DS 𝒳 G (.If c ss1 ss2 pos) (evIfS Tc S1 S2) := by
  obtain ⟨tc, pc, rc⟩ := hc
  obtain ⟨t, pt, rt⟩ := h1
  obtain ⟨u, pu, ru⟩ := h2
  refine ⟨_, fun i => ps_if (pc i) (pt i) (pu i), fun c σ δ D s w h => ?_⟩
  refine rc c σ δ _ s w (wpM_mono (wpM_bind.mp h) (fun k W1 h1 c1 hw e1 w1 => ?_) fun _ _ q => q)
  subst hw
  cases k with
  | true => exact rt c1 σ δ D (s.mono e1) w1 (wpM_mono h1 (fun _ _ q => q.mono e1) fun _ _ q => q.mono e1)
  | false => exact ru c1 σ δ D (s.mono e1) w1 (wpM_mono h1 (fun _ _ q => q.mono e1) fun _ _ q => q.mono e1)
/-! ### while, by fuel -/
def evWhile (T : Env → M Bool) (B : Env → M (Fl × Env)) : Nat → Env → M (Fl × Env)
  | 0, _ => M.fail
  | n + 1, δ => (T δ).bind fun b => if b then (B δ).bind fun p => match p.1 with
    | .nx => evWhile T B n p.2
    | .ct => evWhile T B n p.2
    | .bk => M.ret (.nx, p.2)
    | .rt v => M.ret (.rt v, p.2)
    else M.ret (.nx, δ)
theorem ds_while (n : Nat) {c : Expr} {body : List Stmt} {B : Env → M (Fl × Env)} (hp : ∀ i, PassesOwn (model (𝒳 i).prog (𝒳 i).w) (𝒳 i).A (𝒳 i).env (𝒳 i).xe) (hc : DT 𝒳 G c Tc) (hb : DSs 𝒳 G body B) : DS 𝒳 G (.While c body [] pos) (evWhile Tc B n) := by
  obtain ⟨tc, pc, rc⟩ := hc
  obtain ⟨t, pt, rt⟩ := hb
  refine ⟨_, fun i => ps_while (hp i) (pc i) (pt i), fun c σ δ D s w h => ?_⟩
  refine ⟨fun m σ H => ∃ c2 δ2, c2.H = H ∧ Ext c c2 ∧ WOk c2 ∧ SOk σ δ2 c2 ∧ wpM (evWhile Tc B m δ2) c2.W (QS c2 D) (QE G c2), ⟨n, c, δ, rfl, Ext.refl c, w, s, h⟩, ?_⟩
  rintro m σ H ⟨c2, δ2, rfl, e2, w2, s2, h2⟩
  cases m with
  | zero => exact h2.elim
  | succ m =>
    refine rc c2 σ δ2 _ s2 w2 (wpM_mono (wpM_bind.mp h2) (fun k W1 h1 c1 hw e1 w1 => ?_) fun _ _ q => q)
    subst hw
    cases k with
    | false => exact h1 σ c1 rfl e1 w1 (s2.mono e1)
    | true =>
      show (if true = true then _ else _)
      rw [if_pos rfl]
      refine ⟨fun σ' H' => ∃ c3 δ3, c3.H = H' ∧ Ext c c3 ∧ WOk c3 ∧ SOk σ' δ3 c3 ∧ wpM (evWhile Tc B m δ3) c3.W (QS c3 D) (QE G c3), fun σ' H' z => ⟨m, Nat.lt_succ_self m, z⟩, ?_⟩
      refine rt c1 σ δ2 _ (s2.mono e1) w1 (wpM_mono (wpM_bind.mp h1) (fun p W3 h3 => ?_) fun _ _ q => q.mono e1)
      obtain ⟨f, δ3⟩ := p
      cases f with
      | nx =>
        intro σ' c3 hw e3 w3 s3
        subst hw
        exact ⟨c3, δ3, rfl, (e2.trans e1).trans e3, w3, s3, wpM_mono h3 (fun _ _ q => (q.mono e1).mono e3) fun _ _ q => (q.mono e1).mono e3⟩
      | ct =>
        intro σ' c3 hw e3 w3 s3
        subst hw
        exact ⟨c3, δ3, rfl, (e2.trans e1).trans e3, w3, s3, wpM_mono h3 (fun _ _ q => (q.mono e1).mono e3) fun _ _ q => (q.mono e1).mono e3⟩
      | bk => exact fun σ' c3 hw e3 w3 s3 => h3 σ' c3 hw (e1.trans e3) w3 s3
      | rt v => exact fun x c3 hw e3 w3 r3 => h3 x c3 hw (e1.trans e3) w3 r3
end
end DL
set_option Elab.async false
set_option linter.all false
set_option maxRecDepth 100000
set_option maxHeartbeats 4000000
/-! DL9: enumerate of a text, of a tuple (over the library's own rules of iterators). -/
namespace DL
open PySem PySem.Spec PyProof.Rows L2
/-- the text's signs, each in a new pair -/
def IteS (x : Str) : It := ⟨fun i _ => i < x.cps.size, fun i H v H' => ∃ T ch, v = .ref T ∧ H T = none ∧ H' = upd H T (.tup [.int (i : Nat), .str ⟨#[ch]⟩]) ∧ x.cps[i]? = some ch, fun i _ => x.cps.size ≤ i⟩
theorem turn_enumS {P : Program} {w : PySem.World} {K : PySem.W.Frag} {elts : List Expr} {kk : Nat} {tpos : Pos} (x : Str) (t : Tok) (e it : Addr) :
    Turn P w K (.Tuple elts kk tpos) (IteS x) [e, it] e (fun i h => i ≤ x.cps.size ∧ (∃ old, IsEnum h e it ((i : Nat) : Int) old) ∧ h.IsStrIter it (strIterType x) x t i ∧ e ≠ it) where
  mem := by simp
  obj := fun i h st b hb => by
    obtain ⟨_, ⟨old, he⟩, ⟨o, ho, hc, hd⟩, _⟩ := st
    have e' : b = e ∨ b = it := by simpa using hb
    rcases e' with z | z
    · rw [z]; exact ⟨_, he, fun v q => nomatch q⟩
    · rw [z]; exact ⟨o, ho, fun v q => by rw [hd] at q; cases q⟩
  keep := fun i h h' st k => let ⟨hle, ⟨old, he⟩, ⟨o, ho, r⟩, hne⟩ := st; ⟨hle, ⟨old, k e (by simp) _ he⟩, ⟨o, k it (by simp) o ho, r⟩, hne⟩
  item := by
    intro X hP hw hK hc i pins s σ H E I hf st hg
    subst hP hw hK
    obtain ⟨_, ⟨old, he⟩, hit, hne⟩ := st
    have hel : e < s.heap.objs.size := Heap.lt_size he
    have hil : it < s.heap.objs.size := by obtain ⟨_, q, _⟩ := hit; exact Heap.lt_size q
    have Dr := Draws.text (prog := X.prog) (w := X.w) (A := X.A.in1) (show X.A.in1.handled = none from I.ok.hd hc) it x t
    refine wpAny_pyNext_enum_itemD (St := fun i h => h.IsStrIter it (strIterType x) x t i) Dr he hit hg hne (by simpa using hne) fun u h' tk hP ho hit' hT hsz hk => ?_
    obtain ⟨ch, tu, hx, rfl⟩ := hP
    refine ⟨_, rfl, wpAny_letOwnedTupleGo_enum (s := { s with heap := h', toks := tk + 1 }) ho fun h'' he' sb => ?_⟩
    have hT2 : h''.get? s.heap.objs.size = some { cls := .type "tuple", data := .seq #[.int i tk, .str ⟨#[ch]⟩ tu] } := (sb.2 _ (Nat.ne_of_gt hel)).trans hT
    have new : ObjOk X.prog X.w (upd H s.heap.objs.size (.tup [.int (i : Nat), .str ⟨#[ch]⟩])) h'' s.heap.objs.size (.tup [.int (i : Nat), .str ⟨#[ch]⟩]) :=
      ⟨by show 2 ≤ sizeLine; decide, [.int i tk, .str ⟨#[ch]⟩ tu], .cons ⟨_, rfl⟩ (.cons ⟨_, rfl⟩ .nil), ⟨_, hT2, rfl, _, rfl⟩⟩
    have I1 : Inv X pins σ (upd H s.heap.objs.size (.tup [.int (i : Nat), .str ⟨#[ch]⟩])) { s with heap := h'', toks := tk + 1 } :=
      I.turnedNew (ch := [e, it]) (fun b ob hb q => (sb.2 b (fun z => hb (by simp [z]))).trans (hk b ob (fun z => hb (by simp [z])) (fun z => hb (by simp [z])) q)) hf (Nat.le_refl _) new
    refine ⟨.ref s.heap.objs.size, _, I1, rfl, ⟨_, ch, rfl, I.hok.fresh (Nat.le_refl _), rfl, hx⟩, ⟨by have : i < x.cps.size := hg; omega, ⟨.str ⟨#[ch]⟩ tu, ?_⟩, (let ⟨o, q, r⟩ := hit'; ⟨o, (sb.2 it (Ne.symm hne)).trans q, r⟩), hne⟩, fun b hb => ?_⟩
    · have e1 : ((i + 1 : Nat) : Int) = (i : Int) + 1 := by omega
      rw [e1]; exact he'
    · have hb' : b < s.heap.objs.size := by
        have e' : b = e ∨ b = it := by simpa using hb
        rcases e' with z | z
        · rw [z]; exact hel
        · rw [z]; exact hil
      rw [upd_ne (Nat.ne_of_lt hb')]
      exact (hf b hb).1
  done := by
    intro X hP hw hK hc i pins s σ H E I hf st hg
    subst hP hw hK
    obtain ⟨hle, ⟨old, he⟩, hit, hne⟩ := st
    have e1 : i = x.cps.size := Nat.le_antisymm hle hg
    subst e1
    obtain ⟨f0, f1, f2, f3, f4, f5⟩ := hf it (by simp)
    have Dr := Draws.text (prog := X.prog) (w := X.w) (A := X.A.in1) (show X.A.in1.handled = none from I.ok.hd hc) it x t
    exact wpAny_pyNext_enum_endD (St := fun i h => h.IsStrIter it (strIterType x) x t i) Dr he hit fun h' eb => ⟨rfl, I.turned (t' := s.toks) (fun b o hb q => eb b o hb q) f0 f1 f3 f4 f5⟩
  self := fun A i s Q E st h => let ⟨_, ⟨_, he⟩, _⟩ := st; wpAny_pyIter_enum he h
def iEnumS (ta : TA) : TI := fun σ H R => ta σ H fun vs H1 => ∃ x, vs = [.str x] ∧ R (IteS x) H1
theorem pi_enumS {X : Cx} {e : Expr} {ta : TA} {p pos tpos : Pos} {elts : List Expr} {kk : Nat} (hg : Gl X "enumerate") (hm : X.mg "enumerate" = none) (ha : PA X [e] ta) (hs : starEach [e] X.env = [(false, eval e X.env)] := by rfl) :
    PI X (.Tuple elts kk tpos) (.Call (.Name "enumerate" p) [e] [] pos) (iEnumS ta) := by
  refine ⟨fun pins s σ H R I h => ?_⟩
  refine Call_ (ld_blt I hg hm boot_enumerate (PyProof.Rows.callWith_type1 (thn (ha.run pos pins s σ H _ I h) fun us s1 ⟨vs, H1, I1, r1, q1⟩ => ?_) hs rfl))
  obtain ⟨x, ex, q⟩ := q1
  subst ex
  cases r1 with
  | cons r rr =>
    cases rr
    obtain ⟨t, rfl⟩ := r
    refine call_enumerate_str fun h' he hit hsz hk => wpAny_pyIter_enum he ?_
    have I2 : Inv X pins σ H1 { s1 with heap := h' } := I1.kept (t' := s1.toks) hk
    refine ⟨s1.heap.objs.size + 1, [s1.heap.objs.size + 1, s1.heap.objs.size], _, _, H1, rfl, I2, turn_enumS x t (s1.heap.objs.size + 1) s1.heap.objs.size, ⟨Nat.zero_le _, ⟨.none, he⟩, hit, Nat.succ_ne_self _⟩, fun b hb => ?_, q⟩
    have e' : b = s1.heap.objs.size + 1 ∨ b = s1.heap.objs.size := by simpa using hb
    have hle : s1.heap.objs.size ≤ b := by
      rcases e' with z | z
      · rw [z]; exact Nat.le_add_right _ _
      · rw [z]; exact Nat.le_refl _
    exact I1.fpOk hle (I1.hok.fresh hle)
end DL
set_option Elab.async false
set_option linter.all false
set_option maxRecDepth 100000
set_option maxHeartbeats 4000000
/-! DL10: what a for walks; for; comprehensions. -/
namespace DL
open PySem PySem.Spec PyProof.Rows L2 RZ
/-- the turns of J over the data ds, from c on -/
def Src (c : Cf) (J : It) (ds : List D) : Prop := ∃ (Gd : Hp → Prop) (Y : Nat → Hp → V → Hp → Prop), Walk J ds.length Gd Y ∧ (∀ c2, Wk c c2 → Gd c2.H) ∧
  ∀ (i : Nat) (x : V) (H2 : Hp) (c2 : Cf) (d : D), ds[i]? = some d → Wk c c2 → WOk c2 → Y i c2.H x H2 → ∃ c3, c3.H = H2 ∧ c3.W = c2.W ∧ Ext c2 c3 ∧ WOk c3 ∧ Rep c3 d x
theorem src_list {c : Cf} {K : PySem.W.Frag} {a : Addr} {xs : List D} (r : Rep c (.lst xs) (.ref a)) : Src c (Itl K a) xs := by
  obtain ⟨a', vs, e, h, n, r⟩ := r
  cases e
  refine ⟨_, _, by rw [repL_len r]; exact walk_list (xs := vs), fun c2 k => SqL.of (k.at h n), fun i x H2 c2 d hd k w y => ?_⟩
  obtain ⟨rfl, hx⟩ := y
  obtain ⟨v, hv, rv⟩ := repL_get r hd
  rw [hv] at hx
  cases hx
  exact ⟨c2, rfl, rfl, Ext.refl c2, w, Rep.monoW k _ _ rv⟩
theorem src_tup {c : Cf} {K : PySem.W.Frag} {a : Addr} {xs : List D} (r : Rep c (.tup xs) (.ref a)) : Src c (Itt K a) xs := by
  obtain ⟨a', vs, e, h, n, r⟩ := r
  cases e
  refine ⟨_, _, by rw [repL_len r]; exact walk_tup (xs := vs), fun c2 k => SqT.of (k.at h n), fun i x H2 c2 d hd k w y => ?_⟩
  obtain ⟨rfl, hx⟩ := y
  obtain ⟨v, hv, rv⟩ := repL_get r hd
  rw [hv] at hx
  cases hx
  exact ⟨c2, rfl, rfl, Ext.refl c2, w, Rep.monoW k _ _ rv⟩
theorem src_str {c : Cf} {z : Str} : Src c (Its z) (charsOf z) := by
  refine ⟨_, _, by unfold charsOf; rw [List.length_map, Array.length_toList]; exact walk_str (z := z), fun c2 k => trivial, fun i x H2 c2 d hd k w y => ?_⟩
  obtain ⟨rfl, ch, hx, rfl⟩ := y
  refine ⟨c2, rfl, rfl, Ext.refl c2, w, ?_⟩
  unfold charsOf at hd
  rw [List.getElem?_map, Array.getElem?_toList, hx] at hd
  cases hd
  rfl
/-- lo, lo + 1, .. -/
def intsFrom (lo : Int) (n : Nat) : List D := (List.range n).map fun i => D.int (lo + (i : Nat))
theorem src_range {c : Cf} {lo : Int} {n : Nat} : Src c (Itr lo n) (intsFrom lo n) := by
  refine ⟨_, _, by unfold intsFrom; rw [List.length_map, List.length_range]; exact walk_range, fun c2 k => trivial, fun i x H2 c2 d hd k w y => ?_⟩
  obtain ⟨rfl, rfl⟩ := y
  refine ⟨c2, rfl, rfl, Ext.refl c2, w, ?_⟩
  unfold intsFrom at hd
  rw [List.getElem?_map] at hd
  cases e : (List.range n)[i]? with
  | none => rw [e] at hd; simp at hd
  | some j =>
    rw [e] at hd
    have hj := List.getElem?_eq_some_iff.mp e
    obtain ⟨h1, h2⟩ := hj
    rw [List.getElem_range] at h2
    subst h2
    cases hd
    rfl
theorem lay_pair {c2 : Cf} {T : Addr} {x y : V} {a b : D} (w : WOk c2) (hT : c2.H T = none) (ra : Rep c2 a x) (rb : Rep c2 b y) : ∃ c3, c3.H = upd c2.H T (.tup [x, y]) ∧ c3.W = c2.W ∧ Ext c2 c3 ∧ WOk c3 ∧ Rep c3 (.tup [a, b]) (.ref T) := by
  obtain ⟨e, w3⟩ := w.lay (o := .tup [x, y]) hT
  exact ⟨c2.lay T (.tup [x, y]), rfl, rfl, e, w3, T, [x, y], rfl, upd_same, w.layAv hT, x, [y], rfl, Rep.mono e _ _ ra, y, [], rfl, Rep.mono e _ _ rb, rfl⟩
def enumD (xs : List D) : List D := xs.zipIdx.map fun p => D.tup [.int (p.2 : Nat), p.1]
theorem enumD_get {xs : List D} {i : Nat} {d : D} (h : (enumD xs)[i]? = some d) : ∃ x, xs[i]? = some x ∧ d = .tup [.int (i : Nat), x] := by
  unfold enumD at h
  rw [List.getElem?_map, List.getElem?_zipIdx] at h
  cases e : xs[i]? with
  | none => rw [e] at h; simp at h
  | some x => rw [e] at h; simp at h; exact ⟨x, rfl, h.symm⟩
theorem enumD_len {xs : List D} : (enumD xs).length = xs.length := by unfold enumD; rw [List.length_map, List.length_zipIdx]
theorem src_enum {c : Cf} {K : PySem.W.Frag} {a : Addr} {xs : List D} (r : Rep c (.lst xs) (.ref a)) : Src c (Ite K a) (enumD xs) := by
  obtain ⟨a', vs, e, h, n, r⟩ := r
  cases e
  refine ⟨_, _, by rw [enumD_len, repL_len r]; exact walk_enum (xs := vs), fun c2 k => SqL.of (k.at h n), fun i x H2 c2 d hd k w y => ?_⟩
  obtain ⟨T, p, q, rfl, hT, rfl, e1, e2⟩ := y
  dsimp only at e1 e2
  obtain ⟨x, hx, rfl⟩ := enumD_get hd
  obtain ⟨v, hv, rv⟩ := repL_get r hx
  rw [hv] at e2
  cases e2
  cases e1
  exact lay_pair w hT rfl (Rep.monoW k _ _ rv)
theorem walk_enumS {z : Str} : Walk (IteS z) z.cps.size (fun _ => True) (YPair (fun i => some (.int (i : Nat))) (fun i => z.cps[i]?.map fun ch => V.str ⟨#[ch]⟩)) := by
  refine ⟨fun _ _ hi _ => hi, fun _ _ => Nat.le_refl _, fun i H v H' _ _ y => ?_⟩
  obtain ⟨T, ch, h1, h2, h3, h4⟩ := y
  exact ⟨T, .int (i : Nat), .str ⟨#[ch]⟩, h1, h2, h3, rfl, by dsimp only; rw [h4]; rfl⟩
theorem src_enumS {c : Cf} {z : Str} : Src c (IteS z) (enumD (charsOf z)) := by
  refine ⟨_, _, by rw [enumD_len]; unfold charsOf; rw [List.length_map, Array.length_toList]; exact walk_enumS (z := z), fun c2 k => trivial, fun i x H2 c2 d hd k w y => ?_⟩
  obtain ⟨T, p, q, rfl, hT, rfl, e1, e2⟩ := y
  dsimp only at e1 e2
  obtain ⟨x, hx, rfl⟩ := enumD_get hd
  unfold charsOf at hx
  rw [List.getElem?_map, Array.getElem?_toList] at hx
  cases e : z.cps[i]? with
  | none => rw [e] at hx; simp at hx
  | some ch =>
    rw [e] at hx e2
    cases hx
    cases e2
    cases e1
    exact lay_pair w hT rfl rfl
def zipD (xs ys : List D) : List D := (xs.zip ys).map fun p => D.tup [p.1, p.2]
theorem zipD_get {xs ys : List D} {i : Nat} {d : D} (h : (zipD xs ys)[i]? = some d) : ∃ x y, xs[i]? = some x ∧ ys[i]? = some y ∧ d = .tup [x, y] := by
  unfold zipD at h
  rw [List.getElem?_map] at h
  cases e : (xs.zip ys)[i]? with
  | none => rw [e] at h; simp at h
  | some p =>
    rw [e] at h
    obtain ⟨h1, h2⟩ := List.getElem?_zip_eq_some.mp e
    simp at h
    exact ⟨p.1, p.2, h1, h2, h.symm⟩
theorem zipD_len {xs ys : List D} : (zipD xs ys).length = min xs.length ys.length := by unfold zipD; rw [List.length_map, List.length_zip]
theorem src_zip {c : Cf} {K : PySem.W.Frag} {a b : Addr} {xs ys : List D} (r : Rep c (.lst xs) (.ref a)) (r2 : Rep c (.lst ys) (.ref b)) : Src c (Itz K a b) (zipD xs ys) := by
  obtain ⟨a', vs, e, h, n, r⟩ := r
  cases e
  obtain ⟨b', ws, e, h2, n2, r2⟩ := r2
  cases e
  refine ⟨_, _, walk_zip (xs := vs) (ys := ws) (by rw [zipD_len, repL_len r, repL_len r2]), fun c2 k => ⟨SqL.of (k.at h n), SqL.of (k.at h2 n2)⟩, fun i x H2 c2 d hd k w y => ?_⟩
  obtain ⟨T, p, q, rfl, hT, rfl, e1, e2⟩ := y
  dsimp only at e1 e2
  obtain ⟨x, y, hx, hy, rfl⟩ := zipD_get hd
  obtain ⟨v, hv, rv⟩ := repL_get r hx
  obtain ⟨v2, hv2, rv2⟩ := repL_get r2 hy
  rw [hv] at e1
  rw [hv2] at e2
  cases e1
  cases e2
  exact lay_pair w hT (Rep.monoW k _ _ rv) (Rep.monoW k _ _ rv2)
theorem walk_zipT {K : PySem.W.Frag} {a b : Addr} {xs ys : List V} {n : Nat} (hn : n = min xs.length ys.length) : Walk (ItzT K a b) n (fun H => SqT K H a xs ∧ SqT K H b ys) (YPair (fun i => xs[i]?) (fun i => ys[i]?)) := by
  subst hn
  refine ⟨fun i _ hi q => ?_, fun _ q => ⟨xs, ys, q.1, q.2, by omega⟩, fun i H v H' _ q y => ?_⟩
  · have h1 : i < xs.length := by omega
    have h2 : i < ys.length := by omega
    exact ⟨xs, ys, xs[i], ys[i], q.1, q.2, by simp [h1], by simp [h2]⟩
  · obtain ⟨T, x, z, h1, h2, h3, h4, h5⟩ := y
    exact ⟨T, x, z, h1, h2, h3, h4 xs q.1, h5 ys q.2⟩
theorem src_zipT {c : Cf} {K : PySem.W.Frag} {a b : Addr} {xs ys : List D} (r : Rep c (.tup xs) (.ref a)) (r2 : Rep c (.tup ys) (.ref b)) : Src c (ItzT K a b) (zipD xs ys) := by
  obtain ⟨a', vs, e, h, n, r⟩ := r
  cases e
  obtain ⟨b', ws, e, h2, n2, r2⟩ := r2
  cases e
  refine ⟨_, _, walk_zipT (xs := vs) (ys := ws) (by rw [zipD_len, repL_len r, repL_len r2]), fun c2 k => ⟨SqT.of (k.at h n), SqT.of (k.at h2 n2)⟩, fun i x H2 c2 d hd k w y => ?_⟩
  obtain ⟨T, p, q, rfl, hT, rfl, e1, e2⟩ := y
  dsimp only at e1 e2
  obtain ⟨x, y, hx, hy, rfl⟩ := zipD_get hd
  obtain ⟨v, hv, rv⟩ := repL_get r hx
  obtain ⟨v2, hv2, rv2⟩ := repL_get r2 hy
  rw [hv] at e1
  rw [hv2] at e2
  cases e1
  cases e2
  exact lay_pair w hT (Rep.monoW k _ _ rv) (Rep.monoW k _ _ rv2)
/-! ### what is walked -/
def RdI (G : Gh) (wi : TI) (S : Env → M (List D)) : Prop := ∀ (c : Cf) (σ : L2.St) (δ : Env) (R : It → Hp → Prop), SOk σ δ c → WOk c → wpM (S δ) c.W (fun ds W' => ∀ J c', c'.W = W' → Ext c c' → WOk c' → Src c' J ds → R J c'.H) (QE G c) → wi σ c.H R
section
variable {ι : Type} {𝒳 : ι → Cx} {G : Gh} {e a b tg : Expr} {Fe Fa Fb : Env → M RV} {pos : Pos} {R : Env → M (List RV)}
def DI (𝒳 : ι → Cx) (G : Gh) (tg e : Expr) (S : Env → M (List D)) : Prop := ∃ wi, (∀ i, PI (𝒳 i) tg e wi) ∧ RdI G wi S
theorem PI.or {X : Cx} {w1 w2 : TI} (h1 : PI X tg e w1) (h2 : PI X tg e w2) : PI X tg e (fun σ H R => w1 σ H R ∨ w2 σ H R) := ⟨fun pins s σ H R I h => h.elim (h1.run pins s σ H R I) (h2.run pins s σ H R I)⟩
def itemsOf : D → M (List D)
  | .lst xs => M.ret xs
  | .tup xs => M.ret xs
  | .str z => M.ret (charsOf z)
  | _ => M.fail
def evIter (Fe : Env → M RV) (δ : Env) : M (List D) := (Fe δ).bind fun u => (toD u).bind itemsOf
theorem wpM_val {α : Type} {m : M α} {W W' : Wd} {a : α} {Q : α → Wd → Prop} {E : DX → Wd → Prop} (e : m W = some (.ok a, W')) : wpM m W Q E ↔ Q a W' := by unfold wpM; rw [e]
theorem toD_noerr {u : RV} {W W' : Wd} {x : DX} : toD u W ≠ some (.error x, W') := by
  intro h
  cases u with
  | d y => cases h
  | r l =>
    simp only [toD] at h
    split at h
    · split at h <;> cases h
    · cases h
theorem di_any (hK : ∀ i, (𝒳 i).K = G.K) (h : DE 𝒳 G e Fe) : DI 𝒳 G tg e (evIter Fe) := by
  obtain ⟨t, p, r⟩ := h
  refine ⟨fun σ H R => iList G.K t σ H R ∨ iTup G.K t σ H R ∨ iStr t σ H R, fun i => ?_, fun c σ δ R s w h => ?_⟩
  · have h1 := pi_list (tg := tg) (p i)
    have h2 := pi_tup (tg := tg) (p i)
    rw [hK i] at h1 h2
    exact PI.or h1 (PI.or h2 (pi_str (p i)))
  have hb := wpM_bind.mp h
  cases hF : Fe δ c.W with
  | none => unfold wpM at hb; rw [hF] at hb; exact hb.elim
  | some q =>
    obtain ⟨z, W1⟩ := q
    cases z with
    | error x =>
      refine .inl (r c σ δ _ s w ?_)
      unfold wpM at hb ⊢
      rw [hF] at hb ⊢
      exact hb
    | ok u =>
      rw [wpM_val hF] at hb
      have hb2 := wpM_bind.mp hb
      cases hT : toD u W1 with
      | none => unfold wpM at hb2; rw [hT] at hb2; exact hb2.elim
      | some q2 =>
        obtain ⟨z2, W2⟩ := q2
        cases z2 with
        | error x => exact absurd hT toD_noerr
        | ok d =>
          rw [wpM_val hT] at hb2
          have go : ∀ (Q : VK), (∀ x c2, c2.W = W2 → Ext c c2 → WOk c2 → Rep c2 d x → Q x c2.H) → t σ c.H Q := fun Q hq => by
            refine r c σ δ Q s w ((wpM_val hF).mpr fun x c1 hw e1 w1 r1 => ?_)
            subst hw
            obtain ⟨c2, d2, h1, e2, w2, r2, h3⟩ := toD_ok (Q := fun d' W' => d' = d ∧ W' = W2) (E := fun _ _ => False) w1 r1 ((wpM_val hT).mpr ⟨rfl, rfl⟩)
            obtain ⟨rfl, h4⟩ := h3
            rw [← h1]
            exact hq x c2 h4 (e1.trans e2) w2 r2
          cases d <;> try exact hb2.elim
          case lst xs =>
            refine .inl (go _ fun x c2 hw e2 w2 r2 => ?_)
            have r2' := r2
            obtain ⟨a, vs, rfl, h1, _⟩ := r2'
            exact ⟨a, rfl, ⟨vs, SqL.of h1⟩, hb2 _ c2 hw e2 w2 (src_list r2)⟩
          case tup xs =>
            refine .inr (.inl (go _ fun x c2 hw e2 w2 r2 => ?_))
            have r2' := r2
            obtain ⟨a, vs, rfl, h1, _⟩ := r2'
            exact ⟨a, rfl, ⟨vs, SqT.of h1⟩, hb2 _ c2 hw e2 w2 (src_tup r2)⟩
          case str z =>
            refine .inr (.inr (go _ fun x c2 hw e2 w2 r2 => ?_))
            cases r2
            exact ⟨z, rfl, hb2 _ c2 hw e2 w2 src_str⟩
/-- range(n), range(a, b) -/
def evRange1 (R : Env → M (List RV)) (δ : Env) : M (List D) := (R δ).bind fun us => (M.opt (intsL us)).bind fun ns => match ns with
  | [j] => (M.guard (-(2 ^ 62) ≤ j ∧ j < 2 ^ 62)).bind fun _ => M.ret (intsFrom 0 j.toNat)
  | _ => M.fail
def evRange2 (R : Env → M (List RV)) (δ : Env) : M (List D) := (R δ).bind fun us => (M.opt (intsL us)).bind fun ns => match ns with
  | [i, j] => (M.guard (-(2 ^ 62) ≤ i ∧ i < 2 ^ 62 ∧ -(2 ^ 62) ≤ j ∧ j < 2 ^ 62)).bind fun _ => M.ret (intsFrom i (j - i).toNat)
  | _ => M.fail
theorem di_range1 {p : Pos} (hm : ∀ i, (𝒳 i).mg "range" = none) (ha : DA 𝒳 G [a] R) (hg : ∀ i, Gl (𝒳 i) "range" := by intro _; rfl) (hs : ∀ i, starEach [a] (𝒳 i).env = [(false, eval a (𝒳 i).env)] := by intro _; rfl) : DI 𝒳 G tg (.Call (.Name "range" p) [a] [] pos) (evRange1 R) := by
  obtain ⟨t, pt, rt⟩ := ha
  refine ⟨iRng1 t, fun i => pi_range1 (hg i) (hm i) (pt i) (hs i), fun c σ δ R' s w h => ?_⟩
  refine rt c σ δ _ s w (wpM_mono (wpM_bind.mp h) (fun us W1 h1 xs c1 hw e1 w1 r1 => ?_) fun _ _ q => q)
  obtain ⟨ns, e2, q⟩ := wpM_opt (wpM_bind.mp h1)
  match ns, e2, q with
  | [j], e2, q =>
    obtain ⟨⟨g1, g2⟩, q⟩ := wpM_guard (wpM_bind.mp q)
    have := intsL_ok e2 r1
    subst this
    exact ⟨j, rfl, g1, g2, q _ c1 hw e1 w1 src_range⟩
  | [], _, q => exact q.elim
  | _ :: _ :: _, _, q => exact q.elim
theorem di_range2 {p : Pos} (hm : ∀ i, (𝒳 i).mg "range" = none) (ha : DA 𝒳 G [a, b] R) (hg : ∀ i, Gl (𝒳 i) "range" := by intro _; rfl) (hs : ∀ i, starEach [a, b] (𝒳 i).env = [(false, eval a (𝒳 i).env), (false, eval b (𝒳 i).env)] := by intro _; rfl) (hs2 : ∀ i, starEach [b] (𝒳 i).env = [(false, eval b (𝒳 i).env)] := by intro _; rfl) :
    DI 𝒳 G tg (.Call (.Name "range" p) [a, b] [] pos) (evRange2 R) := by
  obtain ⟨t, pt, rt⟩ := ha
  refine ⟨iRng2 t, fun i => pi_range2 (hg i) (hm i) (pt i) (hs i) (hs2 i), fun c σ δ R' s w h => ?_⟩
  refine rt c σ δ _ s w (wpM_mono (wpM_bind.mp h) (fun us W1 h1 xs c1 hw e1 w1 r1 => ?_) fun _ _ q => q)
  obtain ⟨ns, e2, q⟩ := wpM_opt (wpM_bind.mp h1)
  match ns, e2, q with
  | [i, j], e2, q =>
    obtain ⟨g1, q⟩ := wpM_guard (wpM_bind.mp q)
    have := intsL_ok e2 r1
    subst this
    exact ⟨i, j, rfl, g1, q _ c1 hw e1 w1 src_range⟩
  | [], _, q => exact q.elim
  | [_], _, q => exact q.elim
  | _ :: _ :: _ :: _, _, q => exact q.elim
/-- enumerate(a list, a text) -/
def itemsE : D → M (List D)
  | .lst xs => M.ret (enumD xs)
  | .str z => M.ret (enumD (charsOf z))
  | _ => M.fail
def evEnum (R : Env → M (List RV)) (δ : Env) : M (List D) := (R δ).bind fun us => match us with
  | [u] => (toD u).bind itemsE
  | _ => M.fail
/-- an argument list of one thing that is then made pure: what comes is known ahead -/
theorem args1 {t : TA} {c : Cf} {σ : L2.St} {δ : Env} {F : D → M (List D)} {Q0 : List D → Wd → Prop} (r : RdA G t R) (s : SOk σ δ c) (w : WOk c) (h : wpM ((R δ).bind fun us => match us with | [u] => (toD u).bind F | _ => M.fail) c.W Q0 (QE G c)) :
    (∀ Q, t σ c.H Q) ∨ ∃ d W2, wpM (F d) W2 Q0 (QE G c) ∧ ∀ (Q : List V → Hp → Prop), (∀ x c2, c2.W = W2 → Ext c c2 → WOk c2 → Rep c2 d x → Q [x] c2.H) → t σ c.H Q := by
  have hb := wpM_bind.mp h
  cases hF : R δ c.W with
  | none => unfold wpM at hb; rw [hF] at hb; exact hb.elim
  | some q =>
    obtain ⟨z, W1⟩ := q
    cases z with
    | error x =>
      refine .inl fun Q => r c σ δ Q s w ?_
      unfold wpM at hb ⊢
      rw [hF] at hb ⊢
      exact hb
    | ok us =>
      rw [wpM_val hF] at hb
      match us, hF, hb with
      | [], _, hb => exact hb.elim
      | [u], hF, hb =>
        have hb2 := wpM_bind.mp hb
        cases hT : toD u W1 with
        | none => unfold wpM at hb2; rw [hT] at hb2; exact hb2.elim
        | some q2 =>
          obtain ⟨z2, W2⟩ := q2
          cases z2 with
          | error x => exact absurd hT toD_noerr
          | ok d =>
            rw [wpM_val hT] at hb2
            refine .inr ⟨d, W2, hb2, fun Q hq => ?_⟩
            refine r c σ δ Q s w ((wpM_val hF).mpr fun xs c1 hw e1 w1 r1 => ?_)
            subst hw
            obtain ⟨x, rfl, r1'⟩ := vs1 r1
            obtain ⟨c2, d2, h1, e2, w2, r2, h3⟩ := toD_ok (Q := fun d' W' => d' = d ∧ W' = W2) (E := fun _ _ => False) w1 r1' ((wpM_val hT).mpr ⟨rfl, rfl⟩)
            obtain ⟨rfl, h4⟩ := h3
            rw [← h1]
            exact hq x c2 h4 (e1.trans e2) w2 r2
      | _ :: _ :: _, _, hb => exact hb.elim
theorem di_enum {p tpos : Pos} {elts : List Expr} {kk : Nat} (hK : ∀ i, (𝒳 i).K = G.K) (hm : ∀ i, (𝒳 i).mg "enumerate" = none) (ha : DA 𝒳 G [a] R) (hg : ∀ i, Gl (𝒳 i) "enumerate" := by intro _; rfl) (hs : ∀ i, starEach [a] (𝒳 i).env = [(false, eval a (𝒳 i).env)] := by intro _; rfl) :
    DI 𝒳 G (.Tuple elts kk tpos) (.Call (.Name "enumerate" p) [a] [] pos) (evEnum R) := by
  obtain ⟨t, pt, rt⟩ := ha
  refine ⟨fun σ H R => iEnum G.K t σ H R ∨ iEnumS t σ H R, fun i => ?_, fun c σ δ R' s w h => ?_⟩
  · have h1 := pi_enum (tpos := tpos) (elts := elts) (kk := kk) (p := p) (pos := pos) (hg i) (hm i) (pt i) (hs i)
    rw [hK i] at h1
    exact PI.or h1 (pi_enumS (hg i) (hm i) (pt i) (hs i))
  rcases args1 rt s w h with h1 | ⟨d, W2, h1, go⟩
  · exact .inl (h1 _)
  · cases d <;> try exact h1.elim
    case lst xs =>
      refine .inl (go _ fun x c2 hw e2 w2 r2 => ?_)
      have r2' := r2
      obtain ⟨a, vs, rfl, h2, _⟩ := r2'
      exact ⟨a, vs, rfl, SqL.of h2, h1 _ c2 hw e2 w2 (src_enum r2)⟩
    case str z =>
      refine .inr (go _ fun x c2 hw e2 w2 r2 => ?_)
      cases r2
      exact ⟨z, rfl, h1 _ c2 hw e2 w2 src_enumS⟩
/-- zip of two lists, of two tuples -/
def itemsZ : D → D → M (List D)
  | .lst xs, .lst ys => M.ret (zipD xs ys)
  | .tup xs, .tup ys => M.ret (zipD xs ys)
  | _, _ => M.fail
def evZip (R : Env → M (List RV)) (δ : Env) : M (List D) := (R δ).bind fun us => match us with
  | [u, v] => (toD u).bind fun x => (toD v).bind fun y => itemsZ x y
  | _ => M.fail
theorem args2 {t : TA} {c : Cf} {σ : L2.St} {δ : Env} {F : D → D → M (List D)} {Q0 : List D → Wd → Prop} (r : RdA G t R) (s : SOk σ δ c) (w : WOk c) (h : wpM ((R δ).bind fun us => match us with | [u, v] => (toD u).bind fun x => (toD v).bind fun y => F x y | _ => M.fail) c.W Q0 (QE G c)) :
    (∀ Q, t σ c.H Q) ∨ ∃ d d' W2, wpM (F d d') W2 Q0 (QE G c) ∧ ∀ (Q : List V → Hp → Prop), (∀ x y c2, c2.W = W2 → Ext c c2 → WOk c2 → Rep c2 d x → Rep c2 d' y → Q [x, y] c2.H) → t σ c.H Q := by
  have hb := wpM_bind.mp h
  cases hF : R δ c.W with
  | none => unfold wpM at hb; rw [hF] at hb; exact hb.elim
  | some q =>
    obtain ⟨z, W1⟩ := q
    cases z with
    | error x =>
      refine .inl fun Q => r c σ δ Q s w ?_
      unfold wpM at hb ⊢
      rw [hF] at hb ⊢
      exact hb
    | ok us =>
      rw [wpM_val hF] at hb
      match us, hF, hb with
      | [], _, hb => exact hb.elim
      | [_], _, hb => exact hb.elim
      | [u, v], hF, hb =>
        have hb2 := wpM_bind.mp hb
        cases hT : toD u W1 with
        | none => unfold wpM at hb2; rw [hT] at hb2; exact hb2.elim
        | some q2 =>
          obtain ⟨z2, W2⟩ := q2
          cases z2 with
          | error x => exact absurd hT toD_noerr
          | ok d =>
            rw [wpM_val hT] at hb2
            have hb3 := wpM_bind.mp hb2
            cases hT2 : toD v W2 with
            | none => unfold wpM at hb3; rw [hT2] at hb3; exact hb3.elim
            | some q3 =>
              obtain ⟨z3, W3⟩ := q3
              cases z3 with
              | error x => exact absurd hT2 toD_noerr
              | ok d' =>
                rw [wpM_val hT2] at hb3
                refine .inr ⟨d, d', W3, hb3, fun Q hq => ?_⟩
                refine r c σ δ Q s w ((wpM_val hF).mpr fun xs c1 hw e1 w1 r1 => ?_)
                subst hw
                obtain ⟨x, y, rfl, r1', r2⟩ := vs2 r1
                obtain ⟨c2, d2, h1, e2, w2, r3, h3⟩ := toD_ok (Q := fun d' W' => d' = d ∧ W' = W2) (E := fun _ _ => False) w1 r1' ((wpM_val hT).mpr ⟨rfl, rfl⟩)
                obtain ⟨rfl, h4⟩ := h3
                subst h4
                obtain ⟨c3, d3, h5, e3, w3, r4, h6⟩ := toD_ok (Q := fun d0 W' => d0 = d' ∧ W' = W3) (E := fun _ _ => False) w2 (r2.mono e2) ((wpM_val hT2).mpr ⟨rfl, rfl⟩)
                obtain ⟨rfl, h7⟩ := h6
                rw [← h1, ← h5]
                exact hq x y c3 h7 ((e1.trans e2).trans e3) w3 (Rep.mono e3 _ _ r3) r4
      | _ :: _ :: _ :: _, _, hb => exact hb.elim
theorem di_zip {p tpos : Pos} {elts : List Expr} {kk : Nat} (hK : ∀ i, (𝒳 i).K = G.K) (hm : ∀ i, (𝒳 i).mg "zip" = none) (ha : DA 𝒳 G [a, b] R) (hg : ∀ i, Gl (𝒳 i) "zip" := by intro _; rfl)
    (hs : ∀ i, starEach [a, b] (𝒳 i).env = (false, eval a (𝒳 i).env) :: starEach [b] (𝒳 i).env := by intro _; rfl) (hpl : ∀ i, (backTo pos (starEach [b] (𝒳 i).env)).any (·.1) = false := by intro _; rfl) :
    DI 𝒳 G (.Tuple elts kk tpos) (.Call (.Name "zip" p) [a, b] [] pos) (evZip R) := by
  obtain ⟨t, pt, rt⟩ := ha
  refine ⟨iZipA G.K t, fun i => ?_, fun c σ δ R' s w h => ?_⟩
  · have h1 := pi_zipA (tpos := tpos) (elts := elts) (kk := kk) (p := p) (pos := pos) (hg i) (hm i) (pt i) (hs i) (hpl i)
    rw [hK i] at h1
    exact h1
  rcases args2 rt s w h with h1 | ⟨d, d', W2, h1, go⟩
  · exact h1 _
  · cases d <;> (try exact h1.elim) <;> cases d' <;> try exact h1.elim
    case lst.lst xs ys =>
      refine go _ fun x y c2 hw e2 w2 r2 r3 => ?_
      have r2' := r2
      have r3' := r3
      obtain ⟨a, vs, rfl, h2, _⟩ := r2'
      obtain ⟨b, ws, rfl, h3, _⟩ := r3'
      exact ⟨a, b, vs, ws, rfl, .inl ⟨SqL.of h2, SqL.of h3, h1 _ c2 hw e2 w2 (src_zip r2 r3)⟩⟩
    case tup.tup xs ys =>
      refine go _ fun x y c2 hw e2 w2 r2 r3 => ?_
      have r2' := r2
      have r3' := r3
      obtain ⟨a, vs, rfl, h2, _⟩ := r2'
      obtain ⟨b, ws, rfl, h3, _⟩ := r3'
      exact ⟨a, b, vs, ws, rfl, .inr ⟨SqT.of h2, SqT.of h3, h1 _ c2 hw e2 w2 (src_zipT r2 r3)⟩⟩
/-! ### for -/
def goFor (T : RV → Env → M Env) (B : Env → M (Fl × Env)) : List D → Env → M (Fl × Env)
  | [], δ => M.ret (.nx, δ)
  | d :: ds, δ => (T (.d d) δ).bind fun δ1 => (B δ1).bind fun p => match p.1 with
    | .nx => goFor T B ds p.2
    | .ct => goFor T B ds p.2
    | .bk => M.ret (.nx, p.2)
    | .rt v => M.ret (.rt v, p.2)
def evFor (S : Env → M (List D)) (T : RV → Env → M Env) (B : Env → M (Fl × Env)) (δ : Env) : M (Fl × Env) := (S δ).bind fun ds => goFor T B ds δ
theorem ds_for {vs : List Nat} {S : Env → M (List D)} {T : RV → Env → M Env} {B : Env → M (Fl × Env)} {body : List Stmt} (hp : ∀ i, PassesOwn (model (𝒳 i).prog (𝒳 i).w) (𝒳 i).A (𝒳 i).env (𝒳 i).xe) (hc : ∀ i, (𝒳 i).calm = true) (hi : DI 𝒳 G tg e S) (hg : DG 𝒳 G tg vs T) (hb : DSs 𝒳 G body B)
    (hs : ∀ i, ∀ x, foldedSetIterable e (𝒳 i).env x = pure x := by intro _ _; rfl) : DS 𝒳 G (.For tg e body [] pos) (evFor S T B) := by
  obtain ⟨wi, pi, ri⟩ := hi
  obtain ⟨g, pg, rg⟩ := hg
  obtain ⟨t, pt, rt⟩ := hb
  refine ⟨_, fun i => ps_for (hp i) (hc i) (pi i) (pg i) (pt i) (hs i), fun c σ δ D s w h => ?_⟩
  refine ri c σ δ _ s w (wpM_mono (wpM_bind.mp h) (fun ds W1 h1 J c1 hw e1 w1 src => ?_) fun _ _ q => q)
  subst hw
  obtain ⟨Gd, Y, wk, hG, hY⟩ := src
  refine for_it wk (fun i σ H => ∃ c2 δ2, c2.H = H ∧ Ext c1 c2 ∧ WOk c2 ∧ SOk σ δ2 c2 ∧ wpM (goFor T B (ds.drop i) δ2) c2.W (QS c2 D) (QE G c2)) ⟨c1, δ, rfl, Ext.refl c1, w1, s.mono e1, wpM_mono h1 (fun _ _ q => q.mono e1) fun _ _ q => q.mono e1⟩ ?_ ?_ ?_
  · rintro i σ H _ ⟨c2, δ2, rfl, e2, w2, s2, _⟩
    exact hG c2 e2.wk
  · rintro i x σ H H' hi ⟨c2, δ2, rfl, e2, w2, s2, h2⟩ y
    rw [List.drop_eq_getElem_cons hi] at h2
    obtain ⟨c3, rfl, hw3, e3, w3, r3⟩ := hY i x H' c2 _ (List.getElem?_eq_getElem hi) e2.wk w2 y
    rw [← hw3] at h2
    refine rg c3 x (.d ds[i]) σ δ2 _ (s2.mono e3) w3 (show RepRV c3 (.d _) x from r3) (wpM_mono (wpM_bind.mp h2) (fun δ4 W4 h4 σ4 c4 hw e4 w4 s4 _ _ => ?_) fun _ _ q => q.mono e3)
    subst hw
    refine rt c4 σ4 δ4 _ s4 w4 (wpM_mono (wpM_bind.mp h4) (fun p W5 h5 => ?_) fun _ _ q => (q.mono e3).mono e4)
    obtain ⟨f, δ5⟩ := p
    cases f with
    | nx =>
      intro σ5 c5 hw e5 w5 s5
      subst hw
      exact ⟨c5, δ5, rfl, ((e2.trans e3).trans e4).trans e5, w5, s5, wpM_mono h5 (fun _ _ q => ((q.mono e3).mono e4).mono e5) fun _ _ q => ((q.mono e3).mono e4).mono e5⟩
    | ct =>
      intro σ5 c5 hw e5 w5 s5
      subst hw
      exact ⟨c5, δ5, rfl, ((e2.trans e3).trans e4).trans e5, w5, s5, wpM_mono h5 (fun _ _ q => ((q.mono e3).mono e4).mono e5) fun _ _ q => ((q.mono e3).mono e4).mono e5⟩
    | bk => exact fun σ5 c5 hw e5 w5 s5 => h5 σ5 c5 hw ((e3.trans e4).trans e5) w5 s5
    | rt v => exact fun x c5 hw e5 w5 r5 => h5 x c5 hw ((e3.trans e4).trans e5) w5 r5
  · rintro σ H ⟨c2, δ2, rfl, e2, w2, s2, h2⟩
    rw [List.drop_length] at h2
    exact h2 σ c2 rfl (Ext.refl c2) w2 s2
end
end DL
set_option Elab.async false
set_option linter.all false
set_option maxRecDepth 100000
set_option maxHeartbeats 4000000
/-! DL11: comprehensions. -/
namespace DL
open PySem PySem.Spec PyProof.Rows L2 RZ
theorem Wk.refl (c : Cf) : Wk c c := (Ext.refl c).wk
theorem Wk.trans {c c1 c2 : Cf} (a : Wk c c1) (b : Wk c1 c2) : Wk c c2 :=
  ⟨fun x o h n => b.keep x o (a.keep x o h n).1 (a.keep x o h n).2, fun l h => (b.ren l (Nat.lt_of_lt_of_le h a.len)).trans (a.ren l h), Nat.le_trans a.len b.len⟩
/-- the new list stands in the heap, not to be touched -/
abbrev Cf.plus (c : Cf) (p : Addr) (o : HO) : Cf := ⟨upd c.H p o, c.ren, c.W, fun a => c.Ao a ∨ a = p⟩
abbrev Cf.minus (c : Cf) (p : Addr) (A : Addr → Prop) : Cf := ⟨fun b => if b = p then none else c.H b, c.ren, c.W, A⟩
section
variable {c c' : Cf} {p : Addr} {o : HO}
theorem Cf.live_plus {b : Addr} : (c.plus p o).live b ↔ c.live b := Iff.rfl
theorem Wk.plus (w : WOk c) (h : c.H p = none) : Wk c (c.plus p o) := by
  refine ⟨fun b u hb n => ⟨lay_keep h b u hb, fun z => ?_⟩, fun _ _ => rfl, Nat.le_refl _⟩
  rcases z with (z | z) | z
  · exact n (.inl z)
  · subst z; rw [h] at hb; cases hb
  · exact n (.inr z)
theorem WOk.plus (w : WOk c) (h : c.H p = none) (nt : NoTup o := by intro _ z; cases z) : WOk (c.plus p o) := by
  refine ⟨fun l u hl => (w.obj l u hl).monoW (Wk.plus w h) fun _ ho q => lay_keep h _ _ q, w.inj, fun l u hl m z => ?_, fun a z => ?_⟩
  · rcases z with z | z
    · exact w.out l u hl m z
    · obtain ⟨ho, q⟩ := (w.obj l u hl).at m
      have z' : c.ren l = p := z
      rw [z', h] at q; cases q
  · rcases z with z | z
    · obtain ⟨u, hu, nt⟩ := w.ao a z
      exact ⟨u, lay_keep h _ _ hu, nt⟩
    · subst z; exact ⟨o, upd_same, nt⟩
theorem SOk.monoW {σ : L2.St} {δ : Env} (s : SOk σ δ c) (e : Wk c c') : SOk σ δ c' :=
  ⟨s.len, fun i rv h => let ⟨v, h1, h2⟩ := s.get i rv h; ⟨v, h1, h2.monoW e⟩⟩
theorem plus_at (w : WOk c) (h : c.H p = none) (e : Ext (c.plus p o) c') : c'.H p = some o := by
  refine e.keep p o upd_same fun z => ?_
  obtain ⟨l, u, hl, m, q⟩ := z
  obtain ⟨ho, q2⟩ := (w.obj l u hl).at m
  have q' : c.ren l = p := q
  rw [q', h] at q2; cases q2
theorem minus_wk (e : Ext (c.plus p o) c') (w' : WOk c') : Wk c' (c'.minus p c.Ao) := by
  have hp : c'.Ao p := by rw [e.ao]; exact .inr rfl
  refine ⟨fun b u hb n => ⟨?_, fun z => ?_⟩, fun _ _ => rfl, Nat.le_refl _⟩
  · show (if b = p then none else c'.H b) = _
    rw [if_neg (fun (z : b = p) => n (.inl (by rw [z]; exact hp)))]; exact hb
  · rcases z with z | z
    · exact n (.inl (by rw [e.ao]; exact .inl z))
    · exact n (.inr z)
theorem minus_ext (w : WOk c) (h : c.H p = none) (e : Ext (c.plus p o) c') : Ext c (c'.minus p c.Ao) := by
  refine ⟨fun b u hb n => ?_, fun b u hb n => e.dead b u (lay_keep h b u hb) n, fun l hl => e.ren l hl, e.len, rfl⟩
  show (if b = p then none else c'.H b) = _
  rw [if_neg (ne_of_none hb h)]
  exact e.keep b u (lay_keep h b u hb) n
theorem minus_ok (w : WOk c) (h : c.H p = none) (e : Ext (c.plus p o) c') (w' : WOk c') : WOk (c'.minus p c.Ao) := by
  have hp : c'.Ao p := by rw [e.ao]; exact .inr rfl
  have ha : ∀ a, c.Ao a → c'.Ao a := fun a z => by rw [e.ao]; exact .inl z
  refine ⟨fun l u hl => (w'.obj l u hl).monoW (minus_wk e w') fun m ho q => ?_, w'.inj, fun l u hl m z => w'.out l u hl m (ha _ z), fun a z => ?_⟩
  · show (if c'.ren l = p then none else c'.H (c'.ren l)) = _
    rw [if_neg (fun (z : c'.ren l = p) => w'.out l u hl m (by rw [z]; exact hp))]; exact q
  · obtain ⟨u, hu, nt⟩ := w'.ao a (ha a z)
    refine ⟨u, ?_, nt⟩
    show (if a = p then none else c'.H a) = _
    rw [if_neg (fun q => ?_)]
    · exact hu
    · obtain ⟨x, hx, _⟩ := w.ao a z
      rw [q, h] at hx; cases hx
theorem minus_upd (h : c'.H p = some o) {A : Addr → Prop} {o' : HO} : upd c'.H p o' = upd (c'.minus p A).H p o' := by
  funext b
  by_cases q : b = p
  · subst q; rw [upd_same, upd_same]
  · rw [upd_ne q, upd_ne q]
    show _ = (if b = p then none else c'.H b)
    rw [if_neg q]
theorem minus_upd' (h : c'.H p = some o) {A : Addr → Prop} : c'.H = upd (c'.minus p A).H p o := by
  funext b
  by_cases q : b = p
  · subst q; rw [upd_same, h]
  · rw [upd_ne q]
    show _ = (if b = p then none else c'.H b)
    rw [if_neg q]
theorem minus_none {A : Addr → Prop} : (c'.minus p A).H p = none := by show (if p = p then none else _) = none; rw [if_pos rfl]
end
/-! ### the block's own slots -/
def wipeD (δ : Env) : List Nat → Env
  | [] => δ
  | v :: vs => (wipeD δ vs).set v none
theorem wipeD_len (δ : Env) : ∀ vs : List Nat, (wipeD δ vs).length = δ.length
  | [] => rfl
  | v :: vs => by unfold wipeD; rw [List.length_set, wipeD_len δ vs]
theorem wipeD_some {δ : Env} {i : Nat} {x : RV} : ∀ {vs : List Nat}, (wipeD δ vs)[i]? = some (some x) → δ[i]? = some (some x) ∧ i ∉ vs
  | [], h => ⟨h, by simp⟩
  | v :: vs, h => by
    unfold wipeD at h
    by_cases hi : v = i
    · subst hi
      by_cases hv : v < (wipeD δ vs).length
      · rw [List.getElem?_set_self hv] at h; cases h
      · rw [List.getElem?_eq_none (by simpa using hv)] at h; cases h
    · rw [List.getElem?_set_ne hi] at h
      obtain ⟨h1, h2⟩ := wipeD_some h
      exact ⟨h1, by simp only [List.mem_cons, not_or]; exact ⟨fun e => hi e.symm, h2⟩⟩
theorem wipe_out {σ : L2.St} {i : Nat} : ∀ {vs : List Nat}, i ∉ vs → (wipe σ vs)[i]? = σ[i]?
  | [], _ => rfl
  | v :: vs, h => by
    unfold wipe
    simp only [List.mem_cons, not_or] at h
    rw [List.getElem?_set_ne (fun e => h.1 e.symm)]
    exact wipe_out h.2
theorem wipe_in {σ : L2.St} {i : Nat} : ∀ {vs : List Nat}, i ∈ vs → i < σ.length → (wipe σ vs)[i]? = some none
  | v :: vs, h, hl => by
    unfold wipe
    by_cases e : v = i
    · subst e; rw [List.getElem?_set_self (by rw [wipe_length]; exact hl)]
    · rw [List.getElem?_set_ne e]
      exact wipe_in (by simp only [List.mem_cons] at h; exact h.resolve_left fun z => e z.symm) hl
theorem wipe_eq {σ σ' : L2.St} {vs : List Nat} (hl : σ'.length = σ.length) (h : ∀ k, k ∉ vs → σ'[k]? = σ[k]?) : wipe σ' vs = wipe σ vs := by
  apply List.ext_getElem?
  intro k
  by_cases q : k ∈ vs
  · by_cases lt : k < σ.length
    · rw [wipe_in q lt, wipe_in q (by rw [hl]; exact lt)]
    · rw [List.getElem?_eq_none (by rw [wipe_length, hl]; omega), List.getElem?_eq_none (by rw [wipe_length]; omega)]
  · rw [wipe_out q, wipe_out q, h k q]
theorem SOk.wipe {σ : L2.St} {δ : Env} {c : Cf} (s : SOk σ δ c) (vs : List Nat) : SOk (wipe σ vs) (wipeD δ vs) c := by
  refine ⟨by rw [wipe_length, wipeD_len, s.len], fun i rv h => ?_⟩
  obtain ⟨h1, h2⟩ := wipeD_some h
  obtain ⟨v, h3, h4⟩ := s.get i rv h1
  exact ⟨v, by rw [wipe_out h2]; exact h3, h4⟩
/-! ### no exceptions within -/
def noEr {α : Type} (m : M α) : M α := fun W => match m W with
  | some (.error _, _) => none
  | r => r
theorem wpM_noEr {α : Type} {m : M α} {W : Wd} {Q : α → Wd → Prop} {E E' : DX → Wd → Prop} (h : wpM (noEr m) W Q E) : wpM m W Q E' := by
  unfold wpM noEr at *
  cases e : m W with
  | none => rw [e] at h; exact h.elim
  | some p =>
    obtain ⟨r, W'⟩ := p
    rw [e] at h
    cases r with
    | ok a => exact h
    | error x => exact h.elim
def Gh.calm (G : Gh) : Gh := { G with Ex := fun _ _ _ => False }
theorem QE.calm {G : Gh} {c : Cf} {e : DX} {W : Wd} (h : QE G.calm c e W) : QE G c e W := fun C d c' hw e' w r => (h C d c' hw e' w r).elim
abbrev BX := Shared × Hp × Addr × List (Str × Addr) × List Addr
abbrev blkF {ι : Type} (𝒳 : ι → Cx) (scope : Scope) : ι × BX → Cx := fun q => (𝒳 q.1).blk q.2.1 q.2.2.1 scope (compEnvC scope q.2.2.2.2.1 q.2.2.2.1 (𝒳 q.1).env) q.2.2.2.2.2
section
variable {ι : Type} {𝒳 : ι → Cx} {G : Gh} {elt tg iter : Expr} {ifs : List Expr} {scope : Scope} {own : List (Str × Nat)} {pos spos : Pos} {S : Env → M (List D)} {T : RV → Env → M Env} {C : Env → M Bool} {E : Env → M RV} {vs : List Nat}
def DTs (𝒳 : ι → Cx) (G : Gh) (ifs : List Expr) (C : Env → M Bool) : Prop := ∃ t, (∀ i, PTs (𝒳 i) ifs t) ∧ RdT G t C
theorem dts_nil : DTs 𝒳 G [] (fun _ => M.ret true) := ⟨_, fun _ => pts_nil, fun c σ δ Q s w h => h c rfl (Ext.refl c) w⟩
theorem dts_one {e : Expr} (h : DT 𝒳 G e C) : DTs 𝒳 G [e] C := let ⟨_, p, r⟩ := h; ⟨_, fun i => pts_one (p i), r⟩
def goLc (mk : Bool) (T : RV → Env → M Env) (C : Env → M Bool) (E : Env → M RV) (δ : Env) : List D → List RV → M RV
  | [], acc => newL mk acc
  | d :: ds, acc => (T (.d d) δ).bind fun δ1 => (C δ1).bind fun b => if b then (E δ1).bind fun v => (M.guard (acc.length < sizeLine)).bind fun _ => goLc mk T C E δ ds (acc ++ [v]) else goLc mk T C E δ ds acc
def evLc (mk : Bool) (own : List Nat) (S : Env → M (List D)) (T : RV → Env → M Env) (C : Env → M Bool) (E : Env → M RV) (δ : Env) : M RV := (S δ).bind fun ds => noEr (goLc mk T C E (wipeD δ own) ds [])
theorem rd_lc {mk : Bool} {wi : TI} {g : TG} {tt : TT} {te : TE} (own : List Nat) (hi : RdI G wi S) (hg : RdG G.calm g vs T) (ht : RdT G.calm tt C) (he : RdE G.calm te E) (hsub : ∀ k, k ∈ vs → k ∈ own) :
    RdE G (tLc wi g tt te own) (evLc mk own S T C E) := by
  intro c σ δ Q s w h
  refine hi c σ δ _ s w (wpM_mono (wpM_bind.mp h) (fun ds W1 h1 J c1 hw e1 w1 src => ?_) fun _ _ q => q)
  subst hw
  have h1 := wpM_noEr (E' := fun _ _ => False) h1
  intro D hD
  obtain ⟨Gd, Y, wk, hG, hY⟩ := src
  refine lc_it wk (fun i H => ∃ c2 us acc, H = upd c2.H D (.lst acc) ∧ c2.H D = none ∧ Ext c1 c2 ∧ WOk c2 ∧ RepVs c2 us acc ∧ wpM (goLc mk T C E (wipeD δ own) (ds.drop i) us) c2.W (QV c2 Q) (fun _ _ => False)) ?_ ?_ ?_ ?_
  · exact ⟨c1, [], [], rfl, hD, Ext.refl c1, w1, .nil, wpM_mono h1 (fun _ _ q => q.mono e1) fun _ _ q => q.elim⟩
  · rintro i H _ ⟨c2, us, acc, rfl, hd, e2, w2, r2, _⟩
    exact hG (c2.plus D (.lst acc)) (e2.wk.trans (Wk.plus w2 hd))
  · rintro i x H H' hi ⟨c2, us, acc, rfl, hd, e2, w2, r2, h2⟩ y
    rw [List.drop_eq_getElem_cons hi] at h2
    have wp : WOk (c2.plus D (.lst acc)) := w2.plus hd
    obtain ⟨c3, rfl, hw3, e3, w3, r3⟩ := hY i x H' (c2.plus D (.lst acc)) _ (List.getElem?_eq_getElem hi) (e2.wk.trans (Wk.plus w2 hd)) wp y
    have hw3' : c2.W = c3.W := hw3.symm
    rw [hw3'] at h2
    have s3 : SOk (wipe σ own) (wipeD δ own) c3 := ((((s.mono e1).mono e2).monoW (Wk.plus w2 hd)).mono e3).wipe own
    refine hg c3 x (.d ds[i]) _ _ _ s3 w3 (show RepRV c3 (.d _) x from r3) (wpM_mono (wpM_bind.mp h2) (fun δ4 W4 h4 σ4 c4 hw e4 w4 s4 l4 k4 => ?_) fun _ _ q => q.elim)
    subst hw
    refine ⟨?_, ?_⟩
    · rw [wipe_eq l4 fun k hk => k4 k fun z => hk (hsub k z)]
      exact wipe_eq (wipe_length _ _) fun k hk => wipe_out hk
    refine ht c4 σ4 δ4 _ s4 w4 (wpM_mono (wpM_bind.mp h4) (fun b W5 h5 c5 hw e5 w5 => ?_) fun _ _ q => q.elim)
    subst hw
    have e35 := (e3.trans e4).trans e5
    cases b with
    | false =>
      show (if false = true then _ else _)
      rw [if_neg (by decide)]
      refine ⟨c5.minus D c2.Ao, us, acc, minus_upd' (plus_at w2 hd e35), minus_none, e2.trans (minus_ext w2 hd e35), minus_ok w2 hd e35 w5, RepVs.mono (minus_ext w2 hd e35) r2, wpM_mono h5 (fun _ _ q => QV.mono (minus_ext w2 hd e35) q) fun _ _ q => q.elim⟩
    | true =>
      show (if true = true then _ else _)
      rw [if_pos rfl]
      refine he c5 σ4 δ4 _ (s4.mono e5) w5 (wpM_mono (wpM_bind.mp h5) (fun u W6 h6 y6 c6 hw e6 w6 r6 => ?_) fun _ _ q => q.elim)
      subst hw
      have e36 := e35.trans e6
      obtain ⟨hz, h7⟩ := wpM_guard (wpM_bind.mp h6)
      have hz' : acc.length < sizeLine := by rw [← paired_len r2]; exact hz
      refine ⟨acc, plus_at w2 hd e36, hz', c6.minus D c2.Ao, us ++ [u], acc ++ [y6], minus_upd (plus_at w2 hd e36), minus_none, e2.trans (minus_ext w2 hd e36), minus_ok w2 hd e36 w6, ?_, wpM_mono h7 (fun _ _ q => QV.mono (minus_ext w2 hd e36) q) fun _ _ q => q.elim⟩
      exact paired_app (RepVs.mono (minus_ext w2 hd e36) r2) (.cons (r6.monoW (minus_wk e36 w6)) .nil)
  · rintro H ⟨c2, us, acc, rfl, hd, e2, w2, r2, h2⟩
    rw [List.drop_length] at h2
    exact newL_ok w2 r2 h2 D hd
theorem de_lc (mk : Bool) (N : List Str) (sc : Scope) (own : List (Str × Nat)) (ok : BlkOk N sc scope own) (hsub : ∀ k, k ∈ vs → k ∈ own.map (·.2)) (hc : ∀ i, (𝒳 i).calm = true) (hN : ∀ i, (𝒳 i).N.Nodup)
    (hi : DI 𝒳 G tg iter S) (hg : DG (blkF 𝒳 scope) G.calm tg vs T) (ht : DTs (blkF 𝒳 scope) G.calm ifs C) (he : DE (blkF 𝒳 scope) G.calm elt E)
    (eN : ∀ i, (𝒳 i).N = N := by intro _; rfl) (es : ∀ i, (𝒳 i).env.scope = sc := by intro _; rfl) (hs : ∀ i, ∀ x, foldedSetIterable iter (𝒳 i).env x = pure x := by intro _ _; rfl) : DE 𝒳 G (.ListComp elt [⟨tg, iter, ifs, 0⟩] scope pos) (evLc mk (own.map (·.2)) S T C E) := by
  obtain ⟨wi, pi, ri⟩ := hi
  obtain ⟨g, pg, rg⟩ := hg
  obtain ⟨tt, pt, rt⟩ := ht
  obtain ⟨te, pe, re⟩ := he
  exact ⟨_, fun i => pe_lc (hc i) (hN i) (pi i) (by rw [eN i, es i]; exact ok) (fun s H C cl fp => pg (i, s, H, C, cl, fp)) (fun s H C cl fp => pt (i, s, H, C, cl, fp)) (fun s H C cl fp => pe (i, s, H, C, cl, fp)) (hs i), rd_lc _ ri rg rt re hsub⟩
/-- name = [..] -/
theorem ds_setLc (mk : Bool) (N : List Str) (sc : Scope) (own : List (Str × Nat)) (i : Nat) {y : Str} {py : Pos} (ok : BlkOk N sc scope own) (hsub : ∀ k, k ∈ vs → k ∈ own.map (·.2)) (hc : ∀ i, (𝒳 i).calm = true) (hN : ∀ i, (𝒳 i).N.Nodup)
    (hi : DI 𝒳 G tg iter S) (hg : DG (blkF 𝒳 scope) G.calm tg vs T) (ht : DTs (blkF 𝒳 scope) G.calm ifs C) (he : DE (blkF 𝒳 scope) G.calm elt E)
    (hy : N[i]? = some y) (hyl : sc.names.lookup y = some .local) (hsw : ∀ i, swapsWith (.ListComp elt [⟨tg, iter, ifs, 0⟩] scope pos) (some (.Name y py)) spos.line (𝒳 i).env = pure true)
    (eN : ∀ i, (𝒳 i).N = N := by intro _; rfl) (es : ∀ i, (𝒳 i).env.scope = sc := by intro _; rfl) (hs : ∀ i, ∀ x, foldedSetIterable iter (𝒳 i).env x = pure x := by intro _ _; rfl) :
    DS 𝒳 G (.Assign [.Name y py] (.ListComp elt [⟨tg, iter, ifs, 0⟩] scope pos) spos) (evAsg (evLc mk (own.map (·.2)) S T C E) (gtName i)) := by
  obtain ⟨wi, pi, ri⟩ := hi
  obtain ⟨g, pg, rg⟩ := hg
  obtain ⟨tt, pt, rt⟩ := ht
  obtain ⟨te, pe, re⟩ := he
  refine ⟨_, fun k => ps_setLc (hc k) (hN k) (by rw [eN k]; exact hy) (by rw [es k]; exact hyl) (hsw k) (pi k) (by rw [eN k, es k]; exact ok) (fun s H C cl fp => pg (k, s, H, C, cl, fp)) (fun s H C cl fp => pt (k, s, H, C, cl, fp)) (fun s H C cl fp => pe (k, s, H, C, cl, fp)) (hs k), ?_⟩
  refine RdE.asg (vs := [i]) (rd_lc _ ri rg rt re hsub) ?_
  intro c v u σ δ Q s w r h
  refine h (σ.set i (some v)) c rfl (Ext.refl c) w (s.set i r) (by rw [List.length_set]) fun k hk => ?_
  rw [List.getElem?_set_ne (fun z => hk (by rw [z]; exact List.mem_singleton_self k))]
end
end DL
set_option Elab.async false
set_option linter.all false
set_option maxRecDepth 100000
set_option maxHeartbeats 4000000
/-! DL12: defs and calls. -/
namespace L2
open PySem PySem.Spec PyProof.Rows
/-- a def from its body, whatever leaves it -/
theorem Fun.okG {CX : CXT} {P : Program} {w : World} {K : PySem.W.Frag} {mg : Str → Option Value} {base : Heap} {x qual : Str} {st : Stmt} {f : Addr} {fd : FuncData} {N ps : List Str} {k : Nat} {sp : Sp} (F : Fun K x qual st f fd) (S : FnScope N ps (defScope st)) (len : ∀ vs H Q E, sp vs H Q E → vs.length = ps.length)
    (hbody : ∀ (cdv : Value) (A : Around) (outer : List Env) (s : Shared) (H : Hp) (vs : List V) (Q : VK) (E : XK), Room k (A.deeper (envOfC qual (defScope st) s.heap.objs.size f cdv)) → sp vs H Q E →
      ∃ t, PSs (cxOf CX P w K mg base N qual (defScope st) f cdv A outer s H E) (defBody st) t ∧ t { nx := fun _ H' => Q .non H', rt := Q } (start N vs) H) : FnOk P w K mg base CX (k + 1) f fd ps sp := by
  obtain ⟨_, _, _, _, _, _, cdv, _, _, rfl, lk, hcd⟩ := F.ex
  exact fn_of lk hcd S len (hbody cdv)
end L2
namespace DL
open PySem PySem.Spec PyProof.Rows L2 RZ
def startD (n : Nat) (rvs : List RV) : Env := rvs.map some ++ List.replicate (n - rvs.length) none
theorem start_ok {N : List Str} {vs : List V} {rvs : List RV} {c : Cf} (r : RepVs c rvs vs) : SOk (L2.start N vs) (startD N.length rvs) c := by
  have hl := paired_len r
  refine ⟨by unfold L2.start startD; simp [hl], fun i rv h => ?_⟩
  unfold startD at h
  unfold L2.start
  by_cases q : i < rvs.length
  · rw [List.getElem?_append_left (by rw [List.length_map]; exact q), List.getElem?_map] at h
    have h2 : rvs[i]? = some rv := by
      cases e : rvs[i]? with
      | none => rw [e] at h; simp at h
      | some z => rw [e] at h; simp at h; rw [h]
    obtain ⟨v, h3, h4⟩ := paired_get r h2
    refine ⟨v, ?_, h4⟩
    rw [List.getElem?_append_left (by rw [List.length_map, ← hl]; exact q), List.getElem?_map, h3]
    rfl
  · rw [List.getElem?_append_right (by rw [List.length_map]; omega), List.getElem?_replicate] at h
    split at h <;> cases h
def fnD0 (n : Nat) (F : Env → M (Fl × Env)) (rvs : List RV) : M RV := (F (startD n rvs)).bind fun p => match p.1 with
  | .rt v => M.ret v
  | .nx => M.ret (.d .non)
  | _ => M.fail
/-! ### what a call leaves: the labels that it made are let go, if what it tells is no label -/
def RV.below (n : Nat) : RV → Bool
  | .d _ => true
  | .r l => decide (l < n)
def MO.below (n : Nat) : MO → Bool
  | .lst xs => xs.all (RV.below n)
  | .ins _ fs => fs.all fun p => p.2.below n
  | _ => true
def gcOk (W W' : Wd) : Prop := W.length ≤ W'.length ∧ ∀ (l : Nat) (o : MO), l < W.length → W'[l]? = some o → W[l]? = some o ∨ o.below W.length = true
open Classical in
noncomputable def gcW (W W' : Wd) : Wd := if gcOk W W' then W'.take W.length else W'
abbrev Cf.cut (c : Cf) (n : Nat) : Cf := ⟨c.H, c.ren, c.W.take n, c.Ao⟩
section
variable {c c' : Cf} {n : Nat}
theorem cut_look {W : Wd} {l : Nat} {o : MO} (h : (W.take n)[l]? = some o) : l < n ∧ W[l]? = some o := by
  rw [List.getElem?_take] at h
  split at h
  · exact ⟨by assumption, h⟩
  · cases h
theorem cut_kp : Kp c' (c'.cut n) := fun b o h _ n => ⟨.inl h, fun z => n (z.elim .inl fun ⟨l, u, hl, m, q⟩ => .inr ⟨l, u, (cut_look hl).2, m, q⟩)⟩
theorem below_vs : ∀ {xs : List RV} {vs : List V}, RepVs c xs vs → xs.all (RV.below c.W.length) = true
  | [], _, _ => rfl
  | .d _ :: xs, _, .cons _ t => by rw [List.all_cons, below_vs t]; rfl
  | .r l :: xs, _, .cons q t => by rw [List.all_cons, below_vs t, Bool.and_true]; exact decide_eq_true q.2
theorem below_fs : ∀ {xs : List (Str × RV)} {vs : List (Str × V)}, RepFs c xs vs → xs.all (fun p => p.2.below c.W.length) = true
  | [], _, _ => rfl
  | (_, .d _) :: xs, _, .cons _ t => by rw [List.all_cons, below_fs t]; rfl
  | (_, .r l) :: xs, _, .cons q t => by rw [List.all_cons, below_fs t, Bool.and_true]; exact decide_eq_true q.2.2
theorem below_o {o : MO} {a : Addr} (h : RepO c o a) : o.below c.W.length = true := by
  cases o with
  | lst xs => obtain ⟨vs, _, h⟩ := h; exact below_vs h
  | ins C fs => obtain ⟨dx, vs, _, h⟩ := h; exact below_fs h
  | _ => rfl
theorem cut_rv {x : RV} {v : V} (hn : n ≤ c'.W.length) (b : x.below n = true) (r : RepRV c' x v) : RepRV (c'.cut n) x v := by
  cases x with
  | d x => exact Rep.monoK cut_kp x v r
  | r l =>
    refine ⟨r.1, ?_⟩
    show l < (c'.W.take n).length
    rw [List.length_take, Nat.min_eq_left hn]
    exact of_decide_eq_true b
theorem cut_vs (hn : n ≤ c'.W.length) : ∀ {xs : List RV} {vs : List V}, xs.all (RV.below n) = true → RepVs c' xs vs → RepVs (c'.cut n) xs vs
  | [], _, _, .nil => .nil
  | x :: xs, _, b, .cons q t => by
    rw [List.all_cons, Bool.and_eq_true] at b
    exact .cons (cut_rv hn b.1 q) (cut_vs hn b.2 t)
theorem cut_fs (hn : n ≤ c'.W.length) : ∀ {xs : List (Str × RV)} {vs : List (Str × V)}, xs.all (fun p => p.2.below n) = true → RepFs c' xs vs → RepFs (c'.cut n) xs vs
  | [], _, _, .nil => .nil
  | x :: xs, _, b, .cons q t => by
    rw [List.all_cons, Bool.and_eq_true] at b
    exact .cons ⟨q.1, cut_rv hn b.1 q.2⟩ (cut_fs hn b.2 t)
theorem cut_o {o : MO} {a : Addr} (hn : n ≤ c'.W.length) (b : o.below n = true) (r : RepO c' o a) : RepO (c'.cut n) o a := by
  cases o with
  | lst xs => obtain ⟨vs, h1, h2⟩ := r; exact ⟨vs, h1, cut_vs hn b h2⟩
  | ins C fs => obtain ⟨dx, vs, h1, h2⟩ := r; exact ⟨dx, vs, h1, cut_fs hn b h2⟩
  | fz x => exact Rep.monoK cut_kp x _ r
  | tbl P q => obtain ⟨h0, ps, h1, h2, h3⟩ := r; exact ⟨h0, ps, h1, h2, fun pos cv hc => (h3 pos cv hc).imp fun c' z => ⟨z.1, z.2.1, fun y => z.2.2 (y.elim .inl fun ⟨l, u, hl, m, q⟩ => .inr ⟨l, u, (cut_look hl).2, m, q⟩)⟩⟩
  | dK kvs => obtain ⟨vs, h1, h2⟩ := r; exact ⟨vs, h1, RepK.monoK cut_kp _ _ h2⟩
  | dT kvs => obtain ⟨vs, h1, h2⟩ := r; exact ⟨vs, h1, RepT.monoK cut_kp _ _ h2⟩
theorem cut_ok (w : WOk c) (e : Ext c c') (w' : WOk c') (g : gcOk c.W c'.W) : Ext c (c'.cut c.W.length) ∧ WOk (c'.cut c.W.length) := by
  refine ⟨⟨e.keep, fun b o h n z => e.dead b o h n ?_, e.ren, ?_, e.ao⟩, ⟨fun l o h => ?_, fun l l' o o' h m h' m' q => w'.inj l l' o o' (cut_look h).2 m (cut_look h').2 m' q, fun l o h m => w'.out l o (cut_look h).2 m, w'.ao⟩⟩
  · obtain ⟨l, u, hl, m, q⟩ := z
    exact ⟨l, u, (cut_look hl).2, m, q⟩
  · show c.W.length ≤ (c'.W.take c.W.length).length
    rw [List.length_take, Nat.min_eq_left e.len]; exact Nat.le_refl _
  · obtain ⟨hl, h2⟩ := cut_look h
    refine cut_o e.len ?_ (w'.obj l o h2)
    rcases g.2 l o hl h2 with q | q
    · exact below_o (w.obj l o q)
    · exact q
end
noncomputable def gcM (m : M RV) : M RV := fun W => match m W with
  | some (.ok (.d x), W') => some (.ok (.d x), gcW W W')
  | some (.error e, W') => some (.error e, gcW W W')
  | r => r
theorem gc_qv {c : Cf} {Q : VK} {x : D} {W' : Wd} (w : WOk c) (h : QV c Q (.d x) (gcW c.W W')) : QV c Q (.d x) W' := by
  intro y c' hw e w' r
  unfold gcW at h
  by_cases g : gcOk c.W W'
  · rw [if_pos g] at h
    subst hw
    obtain ⟨e2, w2⟩ := cut_ok w e w' g
    exact h y (c'.cut c.W.length) rfl e2 w2 (Rep.monoK cut_kp x y r)
  · rw [if_neg g] at h
    exact h y c' hw e w' r
theorem gc_qe {G : Gh} {c : Cf} {x : DX} {W' : Wd} (w : WOk c) (h : QE G c x (gcW c.W W')) : QE G c x W' := by
  intro C d c' hw e w' r
  unfold gcW at h
  by_cases g : gcOk c.W W'
  · rw [if_pos g] at h
    subst hw
    obtain ⟨e2, w2⟩ := cut_ok w e w' g
    refine h C d (c'.cut c.W.length) rfl e2 w2 ⟨r.1, r.2.elim (fun ⟨dd, ws, h1, h2, n2, h3⟩ => .inl ⟨dd, ws, h1, h2, cut_kp.av h2 n2, ?_⟩) .inr⟩
    exact Paired.mapP h3 fun _ _ q => ⟨q.1, Rep.monoK cut_kp _ _ q.2⟩
  · rw [if_neg g] at h
    exact h C d c' hw e w' r
theorem gcM_ok {G : Gh} {c : Cf} {Q : VK} {m : M RV} (w : WOk c) (h : wpM (gcM m) c.W (QV c Q) (QE G c)) : wpM m c.W (QV c Q) (QE G c) := by
  unfold wpM gcM at h
  unfold wpM
  cases e : m c.W with
  | none => rw [e] at h; exact h.elim
  | some p =>
    obtain ⟨r, W'⟩ := p
    rw [e] at h
    cases r with
    | error x => exact gc_qe w h
    | ok v =>
      cases v with
      | d x => exact gc_qv w h
      | r l => exact h
noncomputable def fnD (n : Nat) (F : Env → M (Fl × Env)) (rvs : List RV) : M RV := gcM (fnD0 n F rvs)
def spW (K : PySem.W.Frag) (cv : Str → Value) (n : Nat) (Fn : List RV → M RV) : Sp := fun vs H Q E => ∃ c rvs, c.H = H ∧ WOk c ∧ RepVs c rvs vs ∧ rvs.length = n ∧ wpM (Fn rvs) c.W (QV c Q) (QE ⟨K, E, cv⟩ c)
section
variable {P : Program} {w : World} {K : PySem.W.Frag} {mg : Str → Option Value} {base : Heap} {cv : Str → Value}
theorem rd_body {G : Gh} {t : TS} {Fb : Env → M (Fl × Env)} {N : List Str} {vs : List V} {rvs : List RV} {c : Cf} {Q : VK} (rt : RdS G t Fb) (w : WOk c) (r : RepVs c rvs vs) (h : wpM (fnD N.length Fb rvs) c.W (QV c Q) (QE G c)) :
    t { nx := fun _ H' => Q .non H', rt := Q } (L2.start N vs) c.H := by
  have h := gcM_ok w h
  refine rt c _ (startD N.length rvs) _ (start_ok r) w (wpM_mono (wpM_bind.mp h) (fun p W1 q => ?_) fun _ _ q => q)
  obtain ⟨f, δ'⟩ := p
  cases f with
  | nx => exact fun σ' c' hw e' w' _ => q .non c' hw e' w' rfl
  | rt v => exact fun x c' hw e' w' r' => q x c' hw e' w' r'
  | bk => exact q.elim
  | ct => exact q.elim
/-- a def from its body's derivation -/
theorem okD {x qual : Str} {st : Stmt} {f : Addr} {fd : FuncData} {N ps : List Str} {k : Nat} {Fb : Env → M (Fl × Env)} (F : Fun K x qual st f fd) (S : FnScope N ps (defScope st))
    (hb : ∀ (cdv : Value) (A : Around) (outer : List PySem.Env) (s : Shared) (H : Hp) (E : XK), Room k (A.deeper (envOfC qual (defScope st) s.heap.objs.size f cdv)) →
      DSs (fun _ : Unit => cxOf (L2N.CX P w) P w K mg base N qual (defScope st) f cdv A outer s H E) ⟨K, E, cv⟩ (defBody st) Fb) :
    FnOk P w K mg base (L2N.CX P w) (k + 1) f fd ps (spW K cv ps.length (fnD N.length Fb)) := by
  refine F.okG S (fun vs H Q E h => ?_) (fun cdv A outer s H vs Q E hr h => ?_)
  · obtain ⟨c, rvs, _, _, r, hl, _⟩ := h
    rw [← hl, paired_len r]
  · obtain ⟨c, rvs, rfl, wk, r, hl, h⟩ := h
    obtain ⟨t, pt, rt⟩ := hb cdv A outer s c.H E hr
    exact ⟨t, pt (), rd_body rt wk r h⟩
theorem ok0 {f : Addr} {fd : FuncData} {ps : List Str} : FnOk P w K mg base (L2N.CX P w) 0 f fd ps (spW K cv ps.length fun _ => M.fail) :=
  ⟨fun vs H Q E h => by obtain ⟨c, rvs, _, _, r, hl, _⟩ := h; rw [← hl, paired_len r], fun A outer s H args us vs Q E hr he hb hv hs => by obtain ⟨c, rvs, _, _, _, _, h⟩ := hs; exact h.elim⟩
/-- a def of the module, that may be called by its name -/
structure CalD (P : Program) (w : World) (K : PySem.W.Frag) (mg : Str → Option Value) (base : Heap) (cv : Str → Value) (k : Nat) (x : Str) (n : Nat) (Fn : List RV → M RV) : Prop where
  ex : ∃ (f : Addr) (fd : FuncData) (ps : List Str), ps.length = n ∧ FnOk P w K mg base (L2N.CX P w) k f fd ps (spW K cv n Fn) ∧ mg x = some (.ref f) ∧ PySem.W.keepIn K (.ref f) = true ∧ Binds K fd ps []
theorem CalD.mono {j k : Nat} {x : Str} {n : Nat} {Fn : List RV → M RV} (c : CalD P w K mg base cv j x n Fn) (h : j ≤ k) : CalD P w K mg base cv k x n Fn :=
  let ⟨f, fd, ps, e, F, q⟩ := c.ex; ⟨f, fd, ps, e, F.mono h, q⟩
end
section
variable {ι : Type} {𝒳 : ι → Cx} {G : Gh} {e : Expr} {es : List Expr} {x : Str} {p pos : Pos} {R : Env → M (List RV)} {Fn : List RV → M RV} {k j n : Nat}
def evCallF (n : Nat) (Fn : List RV → M RV) (R : Env → M (List RV)) (δ : Env) : M RV := (R δ).bind fun us => (M.guard (us.length = n)).bind fun _ => Fn us
theorem rd_callF {t : TA} {K : PySem.W.Frag} (hK : K = G.K) (rt : RdA G t R) : RdE G (tCall (spW K G.cv n Fn) [] G.Ex t) (evCallF n Fn R) := by
  subst hK
  intro c σ δ Q s w h
  refine rt c σ δ _ s w (wpM_mono (wpM_bind.mp h) (fun us W1 h1 xs c1 hw e1 w1 r1 => ?_) fun _ _ q => q)
  subst hw
  obtain ⟨hl, q⟩ := wpM_guard (wpM_bind.mp h1)
  exact ⟨c1, us, rfl, w1, by rw [List.append_nil]; exact r1, hl, wpM_mono q (fun _ _ q => q.mono e1) fun _ _ q => q.mono e1⟩
theorem de_call (hF : ∀ i, CalD (𝒳 i).prog (𝒳 i).w (𝒳 i).K (𝒳 i).mg (𝒳 i).base G.cv j x n Fn) (hr : ∀ i, Room k (𝒳 i).A) (hx : ∀ i, Passes (L2N.CX (𝒳 i).prog (𝒳 i).w) (𝒳 i) G.Ex) (hK : ∀ i, (𝒳 i).K = G.K) (ha : DA 𝒳 G (e :: es) R)
    (hjk : j ≤ k := by omega) (hg : ∀ i, Gl (𝒳 i) x := by intro _; rfl) (hdb : (x == ("__debug__" : Str)) = false := by decide) (he : ∀ i, starEach (e :: es) (𝒳 i).env = (false, eval e (𝒳 i).env) :: starEach es (𝒳 i).env := by intro _; rfl) (hpl : ∀ i, (backTo pos (starEach es (𝒳 i).env)).any (·.1) = false := by intro _; rfl) :
    DE 𝒳 G (.Call (.Name x p) (e :: es) [] pos) (evCallF n Fn R) := by
  obtain ⟨t, pt, rt⟩ := ha
  refine ⟨_, fun i => ?_, rd_callF rfl rt⟩
  obtain ⟨f, fd, ps, hn, F, hm, hk, hb⟩ := (hF i).ex
  rw [hK i] at F hb hk
  have F' : FnOk (𝒳 i).prog (𝒳 i).w (𝒳 i).K (𝒳 i).mg (𝒳 i).base (L2N.CX (𝒳 i).prog (𝒳 i).w) j f fd ps (spW G.K G.cv n Fn) := by rw [hK i]; exact F
  exact pe_call (F'.mono hjk) (hr i) (hg i) hm (by rw [hK i]; exact hk) (by rw [hK i]; exact hb) .nil (hx i) (pt i) hdb (he i) (hpl i)
theorem de_call0 (hF : ∀ i, CalD (𝒳 i).prog (𝒳 i).w (𝒳 i).K (𝒳 i).mg (𝒳 i).base G.cv j x n Fn) (hr : ∀ i, Room k (𝒳 i).A) (hx : ∀ i, Passes (L2N.CX (𝒳 i).prog (𝒳 i).w) (𝒳 i) G.Ex) (hK : ∀ i, (𝒳 i).K = G.K)
    (hjk : j ≤ k := by omega) (hg : ∀ i, Gl (𝒳 i) x := by intro _; rfl) (hdb : (x == ("__debug__" : Str)) = false := by decide) :
    DE 𝒳 G (.Call (.Name x p) [] [] pos) (evCallF n Fn evNil) := by
  refine ⟨_, fun i => ?_, rd_callF (t := tNil) rfl fun c σ δ Q s w h => h [] c rfl (Ext.refl c) w .nil⟩
  obtain ⟨f, fd, ps, hn, F, hm, hk, hb⟩ := (hF i).ex
  rw [hK i] at F hb hk
  have F' : FnOk (𝒳 i).prog (𝒳 i).w (𝒳 i).K (𝒳 i).mg (𝒳 i).base (L2N.CX (𝒳 i).prog (𝒳 i).w) j f fd ps (spW G.K G.cv n Fn) := by rw [hK i]; exact F
  exact pe_call0 (F'.mono hjk) (hr i) (hg i) hm (by rw [hK i]; exact hk) (by rw [hK i]; exact hb) .nil (hx i) hdb
end
end DL
set_option Elab.async false
set_option linter.all false
set_option maxRecDepth 100000
set_option maxHeartbeats 4000000
/-! DL13: short words for printed terms; the law's own def. -/
namespace DL
open PySem PySem.Spec PyProof.Rows L2 RZ
abbrev cI (n : Int) (_ : Env) : M RV := M.ret (.d (.int n))
abbrev cS (z : Str) (_ : Env) : M RV := M.ret (.d (.str z))
abbrev cB (b : Bool) (_ : Env) : M RV := M.ret (.d (.bl b))
abbrev cN (_ : Env) : M RV := M.ret (.d .non)
abbrev cT (t : Ty) (_ : Env) : M RV := M.ret (.d (.ty t))
abbrev evNever (_ : Env) : M RV := M.fail
abbrev evYes (_ : Env) : M Bool := M.ret true
abbrev oN (_ : Env) : M (Option Int) := M.ret none
abbrev oS (F : Env → M RV) (δ : Env) : M (Option Int) := (F δ).bind fun u => (asI u).bind fun i => M.ret (some i)
def evFrz (F : Env → M RV) (δ : Env) : M RV := (F δ).bind fun u => (toD u).bind fun d => M.ret (.d d)
section
variable {ι : Type} {𝒳 : ι → Cx} {G : Gh} {e : Expr} {Fe : Env → M RV} {pos : Pos}
theorem de_frz (h : DE 𝒳 G e Fe) : DE 𝒳 G e (evFrz Fe) := by
  obtain ⟨t, p, r⟩ := h
  refine ⟨t, p, fun c σ δ Q s w h => ?_⟩
  refine r c σ δ _ s w (wpM_mono (wpM_bind.mp h) (fun u W1 h1 x c1 hw e1 w1 r1 => ?_) fun _ _ q => q)
  subst hw
  obtain ⟨c2, d, h2, e2, w2, r2, q⟩ := toD_ok w1 r1 (wpM_bind.mp h1)
  rw [← h2]
  exact q x c2 rfl (e1.trans e2) w2 r2
/-- - an int -/
def evNeg (F : Env → M RV) (δ : Env) : M RV := (F δ).bind fun u => (asI u).bind fun i => M.ret (.d (.int (-i)))
end
theorem sub_by {own : List (Str × Nat)} {vs : List Nat} (h : vs.all (fun k => (own.map (·.2)).contains k) = true) : ∀ k, k ∈ vs → k ∈ own.map (·.2) := fun k hk => by
  have := List.all_eq_true.mp h k hk
  simpa using this
section
variable {P : Program} {w : World} {K : PySem.W.Frag} {mg : Str → Option Value} {base : Heap} {cv : Str → Value}
/-- what stands behind the top of a def -/
structure TopD (K : PySem.W.Frag) (mg : Str → Option Value) (x : Str) (st : Stmt) (ps : List Str) : Prop where
  ex : ∃ (f : Addr) (fd : FuncData), Fun K x x st f fd ∧ mg x = some (.ref f) ∧ Binds K fd ps []
theorem TopD.cal {x : Str} {st : Stmt} {N ps : List Str} {k : Nat} {Fb : Env → M (Fl × Env)} (t : TopD K mg x st ps) (S : FnScope N ps (defScope st))
    (hb : ∀ (f : Addr) (cdv : Value) (A : Around) (outer : List PySem.Env) (s : Shared) (H : Hp) (E : XK), Room k (A.deeper (envOfC x (defScope st) s.heap.objs.size f cdv)) →
      DSs (fun _ : Unit => cxOf (L2N.CX P w) P w K mg base N x (defScope st) f cdv A outer s H E) ⟨K, E, cv⟩ (defBody st) Fb) :
    CalD P w K mg base cv (k + 1) x ps.length (fnD N.length Fb) := by
  obtain ⟨f, fd, F, hm, hb'⟩ := t.ex
  exact ⟨f, fd, ps, rfl, okD F S (hb f), hm, F.kp, hb'⟩
theorem TopD.zero {x : Str} {st : Stmt} {ps : List Str} (t : TopD K mg x st ps) : CalD P w K mg base cv 0 x ps.length (fun _ => M.fail) := by
  obtain ⟨f, fd, F, hm, hb'⟩ := t.ex
  exact ⟨f, fd, ps, rfl, ok0, hm, F.kp, hb'⟩
/-! ### the script -/
def intL (ns : List Int) : List RV := ns.map fun i => .d (.int i)
theorem intL_rep {c : Cf} (ns : List Int) : RepVs c (intL ns) (ns.map V.int) := by
  unfold intL
  induction ns with
  | nil => exact .nil
  | cons i r ih => exact .cons rfl ih
/-- the stream, as the law starts it: its cells, then itself -/
def startW (ns : List Int) : Wd := [.lst (intL ns), .lst [.r 0, .d (.int 0), .d (.int 0), .d (.int 43)]]
def spStart (K : PySem.W.Frag) : Sp := fun vs H Q _ => ∃ (a : Addr) (ns : List Int), vs = [.ref a] ∧ SqL K H a (ns.map V.int) ∧ ∀ c, c.W = startW ns → WOk c → (∀ b o, H b = some o → c.H b = some o) → (∀ a, ¬ c.Ao a) → Q (.ref (c.ren 1)) c.H
theorem start_law {H : Hp} {p q : Addr} {ns : List Int} (hp : H p = none) (hq : upd H p (.lst (ns.map V.int)) q = none) :
    ∃ c : Cf, c.H = upd (upd H p (.lst (ns.map V.int))) q (.lst [.ref p, .int 0, .int 0, .int 43]) ∧ c.W = startW ns ∧ WOk c ∧ c.ren 1 = q ∧ ∀ a, ¬ c.Ao a := by
  let c0 : Cf := ⟨H, fun _ => p, [], fun _ => False⟩
  have w0 : WOk c0 := ⟨fun l o h => by simp [c0] at h, fun l l' o o' h => by simp [c0] at h, fun l o h => by simp [c0] at h, fun a h => h.elim⟩
  let c1 : Cf := c0.new p (.lst (ns.map V.int)) (.lst (intL ns))
  have w1 : WOk c1 := w0.new hp ⟨_, upd_same, intL_rep ns⟩
  have r0 : c1.ren 0 = p := ren_last (c := c0)
  have w2 : WOk (c1.new q (.lst [.ref p, .int 0, .int 0, .int 43]) (.lst [.r 0, .d (.int 0), .d (.int 0), .d (.int 43)])) := by
    refine w1.new hq ⟨_, upd_same, .cons ?_ (.cons rfl (.cons rfl (.cons rfl .nil)))⟩
    refine ⟨?_, by simp [c1, c0]⟩
    rw [ren_new (by simp [c1, c0]), r0]
  exact ⟨_, rfl, rfl, w2, ren_last (c := c1), fun _ z => z⟩
abbrev rOf (K : PySem.W.Frag) : List V → Hp → VK → Prop := fun xs H Q => ∃ p ys, xs = [.ref p] ∧ (SqL K H p ys ∨ SqT K H p ys) ∧ ∀ l, H l = none → Q (.ref l) (upd H l (.lst ys))
/-- _law_start's reading: return [list(script), 0, 0, 43] -/
theorem rd_start {vs : List V} {H : Hp} {Q : VK} {E : XK} (h : spStart K vs H Q E) :
    tRet (tLst (tCons (tCB (rOf K) (tCons (tVar 0) tNil)) (tCons (tC (.int 0)) (tCons (tC (.int 0)) (tCons (tC (.int 43)) tNil))))) { nx := fun _ H' => Q .non H', rt := Q } (L2.start ["script"] vs) H := by
  obtain ⟨a, ns, rfl, hS, q⟩ := h
  refine ⟨.ref a, rfl, a, _, rfl, .inl hS, fun p hp => ⟨by show 4 ≤ sizeLine; decide, fun r hr => ?_⟩⟩
  obtain ⟨c, h1, h2, h3, h4, h5⟩ := start_law hp hr
  have := q c h2 h3 (fun b o e => by rw [h1, upd_ne (ne_of_none (show upd H p _ b = some o by rw [upd_ne (ne_of_none e hp)]; exact e) hr), upd_ne (ne_of_none e hp)]; exact e) h5
  rw [h4, h1] at this
  exact this
def spLawD (K : PySem.W.Frag) : Sp := fun vs H Q _ => ∃ (a : Addr) (ns : List Int), vs = [.ref a] ∧ SqL K H a (ns.map V.int) ∧ ns.length ≤ 63 ∧ ∀ H', Q (.bl true) H'
def lawEnv (n : Nat) : Env := none :: some (.r 1) :: List.replicate (n - 2) none
theorem lawEnv_ok {n : Nat} {c : Cf} {vs : List V} {N : List Str} (hn : N.length = n) (h2 : 2 ≤ n) (h1 : vs.length = 1) (hw : 2 ≤ c.W.length) : SOk ((L2.start N vs).set 1 (some (.ref (c.ren 1)))) (lawEnv n) c := by
  refine ⟨by unfold L2.start lawEnv; simp [hn, h1]; omega, fun i rv h => ?_⟩
  match i, h with
  | 0, h => simp [lawEnv] at h
  | 1, h =>
    simp [lawEnv] at h
    subst h
    refine ⟨.ref (c.ren 1), ?_, rfl, by omega⟩
    rw [List.getElem?_set_self]
    unfold L2.start
    simp [h1]; omega
  | i + 2, h =>
    simp only [lawEnv, List.getElem?_cons_succ, List.getElem?_replicate] at h
    split at h <;> cases h
theorem okLaw {st first : Stmt} {rest : List Stmt} {f : Addr} {fd : FuncData} {N : List Str} {k n : Nat} {Fb : Env → M (Fl × Env)} (F : Fun K "law" "law" st f fd) (S : FnScope N ["script"] (defScope st)) (hst : defBody st = first :: rest) (hn : N.length = n) (h2 : 2 ≤ n)
    (h1 : ∀ (cdv : Value) (A : Around) (outer : List PySem.Env) (s : Shared) (H : Hp) (E : XK), Room k (A.deeper (envOfC "law" (defScope st) s.heap.objs.size f cdv)) →
      PS (cxOf (L2N.CX P w) P w K mg base N "law" (defScope st) f cdv A outer s H E) first (tAsg (tCall (spStart K) [] E (tCons (tVar 0) tNil)) (gName 1)))
    (hb : ∀ (cdv : Value) (A : Around) (outer : List PySem.Env) (s : Shared) (H : Hp) (E : XK), Room k (A.deeper (envOfC "law" (defScope st) s.heap.objs.size f cdv)) →
      DSs (fun _ : Unit => cxOf (L2N.CX P w) P w K mg base N "law" (defScope st) f cdv A outer s H E) ⟨K, E, cv⟩ rest Fb)
    (math : ∀ ns : List Int, ns.length ≤ 63 → wpM (Fb (lawEnv n)) (startW ns) (fun p _ => p.1 = .rt (.d (.bl true))) (fun _ _ => False)) :
    FnOk P w K mg base (L2N.CX P w) (k + 1) f fd ["script"] (spLawD K) := by
  refine F.okG S (fun vs H Q E h => ?_) (fun cdv A outer s H vs Q E hr h => ?_)
  · obtain ⟨a, ns, rfl, _⟩ := h
    rfl
  · obtain ⟨a, ns, rfl, hS, hl, q⟩ := h
    obtain ⟨t, pt, rt⟩ := hb cdv A outer s H E hr
    rw [hst]
    refine ⟨_, pss_cons (h1 cdv A outer s H E hr) (pt ()), ?_⟩
    refine ⟨.ref a, by unfold L2.start; rfl, a, ns, rfl, hS, fun c hw w _ _ => ?_⟩
    refine rt c _ (lawEnv n) _ (lawEnv_ok hn h2 rfl (by rw [hw]; exact Nat.le_refl 2)) w ?_
    rw [hw]
    refine wpM_mono (math ns hl) (fun p W' hp => ?_) fun _ _ z => z.elim
    obtain ⟨f', δ'⟩ := p
    cases hp
    intro x c' _ _ _ r
    cases r
    exact q _
end
end DL
set_option Elab.async false
set_option linter.all false
set_option maxRecDepth 100000
set_option maxHeartbeats 4000000
/-! DL14: readings evaluated, step by step (named continuations, so that simp sees the head alone). -/
namespace DL
open PySem PySem.Spec PyProof.Rows L2 RZ
section
variable {α β : Type} {W : Wd} {E : DX → Wd → Prop} {δ : Env}
def kB (f : α → M β) (Q : β → Wd → Prop) (E : DX → Wd → Prop) (a : α) (W : Wd) : Prop := wpM (f a) W Q E
@[simp] theorem kB_ap {f : α → M β} {Q : β → Wd → Prop} {a : α} : kB f Q E a W = wpM (f a) W Q E := (rfl)
theorem w_bind {m : M α} {f : α → M β} {Q : β → Wd → Prop} : wpM (m.bind f) W Q E = wpM m W (kB f Q E) E := propext wpM_bind
@[simp] theorem w_ret {a : α} {Q : α → Wd → Prop} : wpM (M.ret a) W Q E = Q a W := (rfl)
@[simp] theorem w_opt {a : α} {Q : α → Wd → Prop} : wpM (M.opt (some a)) W Q E = Q a W := (rfl)
@[simp] theorem w_guard {p : Prop} [Decidable p] {Q : Unit → Wd → Prop} : wpM (M.guard p) W Q E = (p ∧ Q () W) := by
  unfold wpM M.guard
  by_cases h : p <;> simp [h]
@[simp] theorem w_set {l : Nat} {m : MO} {Q : Unit → Wd → Prop} : wpM (setAt l m) W Q E = Q () (W.set l m) := (rfl)
def lookK (o : Option α) (Q : α → Wd → Prop) (W : Wd) : Prop := match o with | some a => Q a W | none => False
@[simp] theorem lookK_some {a : α} {Q : α → Wd → Prop} : lookK (some a) Q W = Q a W := (rfl)
theorem w_look {f : Wd → Option α} {Q : α → Wd → Prop} : wpM (M.look f) W Q E = lookK (f W) Q W := by
  unfold wpM M.look lookK
  cases f W <;> rfl
@[simp] theorem w_ite {c : Prop} [Decidable c] {a b : M α} {Q : α → Wd → Prop} : wpM (if c then a else b) W Q E = if c then wpM a W Q E else wpM b W Q E := by split <;> rfl
end
section
variable {W : Wd} {E : DX → Wd → Prop} {δ : Env} {Q : RV → Wd → Prop} {QS' : Fl × Env → Wd → Prop} {QB' : Bool → Wd → Prop} {QL : List RV → Wd → Prop} {QG : Env → Wd → Prop} {Fa Fb F : Env → M RV} {R : Env → M (List RV)} {S1 S2 : Env → M (Fl × Env)} {Ta Tb : Env → M Bool}
/-! statements -/
def seqF (S2 : Env → M (Fl × Env)) (p : Fl × Env) : M (Fl × Env) := match p.1 with | .nx => S2 p.2 | f => M.ret (f, p.2)
@[simp] theorem w_seq : wpM (evSeq S1 S2 δ) W QS' E = wpM (S1 δ) W (kB (seqF S2) QS' E) E := propext wpM_bind
@[simp] theorem seqF_nx : seqF S2 (.nx, δ) = S2 δ := (rfl)
@[simp] theorem seqF_rt {v : RV} : seqF S2 (.rt v, δ) = M.ret (.rt v, δ) := (rfl)
@[simp] theorem seqF_bk : seqF S2 (.bk, δ) = M.ret (.bk, δ) := (rfl)
@[simp] theorem seqF_ct : seqF S2 (.ct, δ) = M.ret (.ct, δ) := (rfl)
@[simp] theorem w_next : wpM (evNext δ) W QS' E = QS' (.nx, δ) W := (rfl)
def retF (δ : Env) (v : RV) : M (Fl × Env) := M.ret (.rt v, δ)
@[simp] theorem w_evRet : wpM (evRet F δ) W QS' E = wpM (F δ) W (kB (retF δ) QS' E) E := propext wpM_bind
@[simp] theorem retF_ap {v : RV} : retF δ v = M.ret (.rt v, δ) := (rfl)
def dropF (δ : Env) (_ : RV) : M (Fl × Env) := M.ret (.nx, δ)
@[simp] theorem w_drop : wpM (evDrop F δ) W QS' E = wpM (F δ) W (kB (dropF δ) QS' E) E := propext wpM_bind
@[simp] theorem dropF_ap {v : RV} : dropF δ v = M.ret (.nx, δ) := (rfl)
def nxF (δ' : Env) : M (Fl × Env) := M.ret (.nx, δ')
@[simp] theorem nxF_ap : nxF δ = M.ret (.nx, δ) := (rfl)
def asgF (T : RV → Env → M Env) (δ : Env) (v : RV) : M (Fl × Env) := (T v δ).bind nxF
@[simp] theorem w_asg {T : RV → Env → M Env} : wpM (evAsg F T δ) W QS' E = wpM (F δ) W (kB (asgF T δ) QS' E) E := propext wpM_bind
@[simp] theorem w_asgF {T : RV → Env → M Env} {v : RV} : wpM (asgF T δ v) W QS' E = wpM (T v δ) W (kB nxF QS' E) E := propext wpM_bind
@[simp] theorem w_gtName {i : Nat} {v : RV} : wpM (gtName i v δ) W QG E = QG (δ.set i (some v)) W := (rfl)
def par2F (i j : Nat) (δ : Env) (us : List RV) : M (Fl × Env) := match us with | [u, v] => M.ret (.nx, (δ.set i (some u)).set j (some v)) | _ => M.fail
@[simp] theorem w_par {i j : Nat} : wpM (evPar i j R δ) W QS' E = wpM (R δ) W (kB (par2F i j δ) QS' E) E := propext wpM_bind
@[simp] theorem par2F_ap {i j : Nat} {u v : RV} : par2F i j δ [u, v] = M.ret (.nx, (δ.set i (some u)).set j (some v)) := (rfl)
def par3F (i j l : Nat) (δ : Env) (us : List RV) : M (Fl × Env) := match us with | [u, v, z] => M.ret (.nx, ((δ.set i (some u)).set j (some v)).set l (some z)) | _ => M.fail
@[simp] theorem w_par3 {i j l : Nat} : wpM (evPar3 i j l R δ) W QS' E = wpM (R δ) W (kB (par3F i j l δ) QS' E) E := propext wpM_bind
@[simp] theorem par3F_ap {i j l : Nat} {u v z : RV} : par3F i j l δ [u, v, z] = M.ret (.nx, ((δ.set i (some u)).set j (some v)).set l (some z)) := (rfl)
def ifSF (S1 S2 : Env → M (Fl × Env)) (δ : Env) (b : Bool) : M (Fl × Env) := if b then S1 δ else S2 δ
@[simp] theorem w_ifS : wpM (evIfS Ta S1 S2 δ) W QS' E = wpM (Ta δ) W (kB (ifSF S1 S2 δ) QS' E) E := propext wpM_bind
@[simp] theorem ifSF_t : ifSF S1 S2 δ true = S1 δ := (rfl)
@[simp] theorem ifSF_f : ifSF S1 S2 δ false = S2 δ := (rfl)
/-! targets -/
def unpF (n : Nat) (Fr : List RV → Env → M Env) (δ : Env) (p : Bool × List RV) : M Env := (M.guard (p.2.length = n)).bind fun _ => Fr p.2 δ
@[simp] theorem w_unp {n : Nat} {Fr : List RV → Env → M Env} {u : RV} : wpM (gtUnp n Fr u δ) W QG E = lookK (seqOf W u) (kB (unpF n Fr δ) QG E) W := by
  unfold gtUnp
  rw [w_bind, w_look]; rfl
@[simp] theorem w_unpF {n : Nat} {Fr : List RV → Env → M Env} {t : Bool} {us : List RV} : wpM (unpF n Fr δ (t, us)) W QG E = (us.length = n ∧ wpM (Fr us δ) W QG E) := by
  unfold unpF
  rw [w_bind, w_guard]; rfl
def gtConsF (Rr : List RV → Env → M Env) (us : List RV) (δ : Env) : M Env := Rr us δ
@[simp] theorem gtConsF_ap {Rr : List RV → Env → M Env} {us : List RV} : gtConsF Rr us δ = Rr us δ := (rfl)
@[simp] theorem w_gtCons {Fg : RV → Env → M Env} {Rr : List RV → Env → M Env} {u : RV} {us : List RV} : wpM (gtCons Fg Rr (u :: us) δ) W QG E = wpM (Fg u δ) W (kB (gtConsF Rr us) QG E) E := propext wpM_bind
@[simp] theorem w_gtNil : wpM (gtNil [] δ) W QG E = QG δ W := (rfl)
def subA (Fi : Env → M RV) (u : RV) (δ : Env) (o : RV) : M Env := (Fi δ).bind fun i => (asI i).bind fun k => (M.look fun W => (lstAt W o).bind fun p => (ixN p.2.length k).map fun j => (p, j)).bind fun z => (setAt z.1.1 (.lst (z.1.2.set z.2 u))).bind fun _ => M.ret δ
@[simp] theorem w_gtSub {u : RV} : wpM (gtSub Fa Fb u δ) W QG E = wpM (Fa δ) W (kB (subA Fb u δ) QG E) E := propext wpM_bind
def subB (u : RV) (δ : Env) (o : RV) (i : RV) : M Env := (asI i).bind fun k => (M.look fun W => (lstAt W o).bind fun p => (ixN p.2.length k).map fun j => (p, j)).bind fun z => (setAt z.1.1 (.lst (z.1.2.set z.2 u))).bind fun _ => M.ret δ
@[simp] theorem w_subA {u o : RV} : wpM (subA Fb u δ o) W QG E = wpM (Fb δ) W (kB (subB u δ o) QG E) E := propext wpM_bind
def subK (u : RV) (l : Nat) (xs : List RV) (o : Option Nat) (δ : Env) (QG : Env → Wd → Prop) (W : Wd) : Prop := match o with | some j => QG δ (W.set l (.lst (xs.set j u))) | none => False
@[simp] theorem subK_some {u : RV} {l j : Nat} {xs : List RV} : subK u l xs (some j) δ QG W = QG δ (W.set l (.lst (xs.set j u))) := (rfl)
def subK0 (u : RV) (k : Int) (o : Option (Nat × List RV)) (δ : Env) (QG : Env → Wd → Prop) (W : Wd) : Prop := match o with | some (l, xs) => subK u l xs (ixN xs.length k) δ QG W | none => False
@[simp] theorem subK0_some {u : RV} {k : Int} {l : Nat} {xs : List RV} : subK0 u k (some (l, xs)) δ QG W = subK u l xs (ixN xs.length k) δ QG W := (rfl)
@[simp] theorem w_subB {u o : RV} {k : Int} : wpM (subB u δ o (.d (.int k))) W QG E = subK0 u k (lstAt W o) δ QG W := by
  unfold subB subK0
  show wpM ((M.look _).bind _) W QG E = _
  rw [w_bind, w_look]
  cases lstAt W o with
  | none => rfl
  | some p =>
    obtain ⟨l, xs⟩ := p
    unfold subK
    dsimp only [Option.bind]
    cases ixN xs.length k <;> rfl
/-! expressions -/
@[simp] theorem w_var {i : Nat} : wpM (evVar i δ) W Q E = wpM (M.opt (δ[i]?.join)) W Q E := (rfl)
def ev2a (op : RV → RV → M RV) (Fb : Env → M RV) (δ : Env) (u : RV) : M RV := (Fb δ).bind (op u)
@[simp] theorem w_ev2 {op : RV → RV → M RV} : wpM (ev2 op Fa Fb δ) W Q E = wpM (Fa δ) W (kB (ev2a op Fb δ) Q E) E := propext wpM_bind
@[simp] theorem w_ev2a {op : RV → RV → M RV} {u : RV} : wpM (ev2a op Fb δ u) W Q E = wpM (Fb δ) W (kB (op u) Q E) E := propext wpM_bind
@[simp] theorem w_evB : wpM (evB F δ) W QB' E = wpM (F δ) W (kB asB QB' E) E := propext wpM_bind
@[simp] theorem asB_bl {b : Bool} : asB (.d (.bl b)) = M.ret b := (rfl)
@[simp] theorem asI_int {b : Int} : asI (.d (.int b)) = M.ret b := (rfl)
def andF (Fb : Env → M RV) (δ : Env) (u : RV) : M RV := (asB u).bind fun c => if c then Fb δ else M.ret (.d (.bl false))
@[simp] theorem w_and : wpM (evAnd Fa Fb δ) W Q E = wpM (Fa δ) W (kB (andF Fb δ) Q E) E := propext wpM_bind
@[simp] theorem andF_t : andF Fb δ (.d (.bl true)) = Fb δ := (rfl)
@[simp] theorem andF_f : andF Fb δ (.d (.bl false)) = M.ret (.d (.bl false)) := (rfl)
def orF (Fb : Env → M RV) (δ : Env) (u : RV) : M RV := (asB u).bind fun c => if c then M.ret (.d (.bl true)) else Fb δ
@[simp] theorem w_or : wpM (evOr Fa Fb δ) W Q E = wpM (Fa δ) W (kB (orF Fb δ) Q E) E := propext wpM_bind
@[simp] theorem orF_t : orF Fb δ (.d (.bl true)) = M.ret (.d (.bl true)) := (rfl)
@[simp] theorem orF_f : orF Fb δ (.d (.bl false)) = Fb δ := (rfl)
def notF (u : RV) : M RV := (asB u).bind fun c => M.ret (.d (.bl !c))
@[simp] theorem w_not : wpM (evNot Fa δ) W Q E = wpM (Fa δ) W (kB notF Q E) E := propext wpM_bind
@[simp] theorem notF_ap {b : Bool} : notF (.d (.bl b)) = M.ret (.d (.bl !b)) := (rfl)
def andTF (Tb : Env → M Bool) (δ : Env) (c : Bool) : M Bool := if c then Tb δ else M.ret false
@[simp] theorem w_andT : wpM (evAndT Ta Tb δ) W QB' E = wpM (Ta δ) W (kB (andTF Tb δ) QB' E) E := propext wpM_bind
@[simp] theorem andTF_t : andTF Tb δ true = Tb δ := (rfl)
@[simp] theorem andTF_f : andTF Tb δ false = M.ret false := (rfl)
def orTF (Tb : Env → M Bool) (δ : Env) (c : Bool) : M Bool := if c then M.ret true else Tb δ
@[simp] theorem w_orT : wpM (evOrT Ta Tb δ) W QB' E = wpM (Ta δ) W (kB (orTF Tb δ) QB' E) E := propext wpM_bind
@[simp] theorem orTF_t : orTF Tb δ true = M.ret true := (rfl)
@[simp] theorem orTF_f : orTF Tb δ false = Tb δ := (rfl)
def notTF (c : Bool) : M Bool := M.ret !c
@[simp] theorem w_notT : wpM (evNotT Ta δ) W QB' E = wpM (Ta δ) W (kB notTF QB' E) E := propext wpM_bind
@[simp] theorem notTF_ap {b : Bool} : notTF b = M.ret (!b) := (rfl)
def ifEF (Fa Fb : Env → M RV) (δ : Env) (c : Bool) : M RV := if c then Fa δ else Fb δ
@[simp] theorem w_if : wpM (evIf Ta Fa Fb δ) W Q E = wpM (Ta δ) W (kB (ifEF Fa Fb δ) Q E) E := propext wpM_bind
@[simp] theorem ifEF_t : ifEF Fa Fb δ true = Fa δ := (rfl)
@[simp] theorem ifEF_f : ifEF Fa Fb δ false = Fb δ := (rfl)
@[simp] theorem w_nil : wpM (evNil δ) W QL E = QL [] W := (rfl)
def consA (R : Env → M (List RV)) (δ : Env) (v : RV) : M (List RV) := (R δ).bind fun vs => M.ret (v :: vs)
def consB (v : RV) (vs : List RV) : M (List RV) := M.ret (v :: vs)
@[simp] theorem w_cons : wpM (evCons F R δ) W QL E = wpM (F δ) W (kB (consA R δ) QL E) E := propext wpM_bind
@[simp] theorem w_consA {v : RV} : wpM (consA R δ v) W QL E = wpM (R δ) W (kB (consB v) QL E) E := propext wpM_bind
@[simp] theorem consB_ap {v : RV} {vs : List RV} : consB v vs = M.ret (v :: vs) := (rfl)
@[simp] theorem w_call {f : List RV → M RV} : wpM (evCall f R δ) W Q E = wpM (R δ) W (kB f Q E) E := propext wpM_bind
def callA (n : Nat) (Fn : List RV → M RV) (us : List RV) : M RV := (M.guard (us.length = n)).bind fun _ => Fn us
@[simp] theorem w_callF {n : Nat} {Fn : List RV → M RV} : wpM (evCallF n Fn R δ) W Q E = wpM (R δ) W (kB (callA n Fn) Q E) E := propext wpM_bind
@[simp] theorem w_callA {n : Nat} {Fn : List RV → M RV} {us : List RV} : wpM (callA n Fn us) W Q E = (us.length = n ∧ wpM (Fn us) W Q E) := by
  unfold callA
  rw [w_bind, w_guard]; rfl
def lstF (mk : Bool) (vs : List RV) : M RV := (M.guard (vs.length ≤ sizeLine)).bind fun _ => newL mk vs
@[simp] theorem w_lst {mk : Bool} : wpM (evLst mk R δ) W Q E = wpM (R δ) W (kB (lstF mk) Q E) E := propext wpM_bind
@[simp] theorem w_lstF {mk : Bool} {vs : List RV} : wpM (lstF mk vs) W Q E = (vs.length ≤ sizeLine ∧ wpM (newL mk vs) W Q E) := by
  unfold lstF
  rw [w_bind, w_guard]; rfl
def tupF (vs : List RV) : M RV := (M.guard (vs.length ≤ sizeLine)).bind fun _ => newT vs
@[simp] theorem w_tup : wpM (evTup R δ) W Q E = wpM (R δ) W (kB tupF Q E) E := propext wpM_bind
@[simp] theorem w_tupF {vs : List RV} : wpM (tupF vs) W Q E = (vs.length ≤ sizeLine ∧ wpM (newT vs) W Q E) := by
  unfold tupF
  rw [w_bind, w_guard]; rfl
@[simp] theorem w_newL_t {vs : List RV} : wpM (newL true vs) W Q E = Q (.r W.length) (W ++ [.lst vs]) := (rfl)
theorem toDs_d : ∀ {ds : List D} {W : Wd}, toDs (ds.map RV.d) W = some (.ok ds, W)
  | [], _ => rfl
  | d :: ds, W => by
    show (toDs (ds.map RV.d)).bind _ W = _
    unfold M.bind
    rw [toDs_d]; rfl
@[simp] theorem w_newL_f {ds : List D} : wpM (newL false (ds.map RV.d)) W Q E = Q (.d (.lst ds)) W := by
  show wpM ((toDs _).bind _) W Q E = _
  rw [w_bind]
  unfold wpM
  rw [toDs_d]; rfl
@[simp] theorem w_newT {ds : List D} : wpM (newT (ds.map RV.d)) W Q E = Q (.d (.tup ds)) W := by
  show wpM ((toDs _).bind _) W Q E = _
  rw [w_bind]
  unfold wpM
  rw [toDs_d]; rfl
/-! display of pure things, by how many -/
@[simp] theorem w_newL_0 : wpM (newL false []) W Q E = Q (.d (.lst [])) W := w_newL_f (ds := [])
@[simp] theorem w_newL_1 {a : D} : wpM (newL false [.d a]) W Q E = Q (.d (.lst [a])) W := w_newL_f (ds := [a])
@[simp] theorem w_newL_2 {a b : D} : wpM (newL false [.d a, .d b]) W Q E = Q (.d (.lst [a, b])) W := w_newL_f (ds := [a, b])
@[simp] theorem w_newL_3 {a b c : D} : wpM (newL false [.d a, .d b, .d c]) W Q E = Q (.d (.lst [a, b, c])) W := w_newL_f (ds := [a, b, c])
@[simp] theorem w_newL_4 {a b c d : D} : wpM (newL false [.d a, .d b, .d c, .d d]) W Q E = Q (.d (.lst [a, b, c, d])) W := w_newL_f (ds := [a, b, c, d])
@[simp] theorem w_newL_5 {a b c d e : D} : wpM (newL false [.d a, .d b, .d c, .d d, .d e]) W Q E = Q (.d (.lst [a, b, c, d, e])) W := w_newL_f (ds := [a, b, c, d, e])
@[simp] theorem w_newL_6 {a b c d e f : D} : wpM (newL false [.d a, .d b, .d c, .d d, .d e, .d f]) W Q E = Q (.d (.lst [a, b, c, d, e, f])) W := w_newL_f (ds := [a, b, c, d, e, f])
@[simp] theorem w_newL_8 {a b c d e f g h : D} : wpM (newL false [.d a, .d b, .d c, .d d, .d e, .d f, .d g, .d h]) W Q E = Q (.d (.lst [a, b, c, d, e, f, g, h])) W := w_newL_f (ds := [a, b, c, d, e, f, g, h])
@[simp] theorem w_newT_0 : wpM (newT []) W Q E = Q (.d (.tup [])) W := w_newT (ds := [])
@[simp] theorem w_newT_1 {a : D} : wpM (newT [.d a]) W Q E = Q (.d (.tup [a])) W := w_newT (ds := [a])
@[simp] theorem w_newT_2 {a b : D} : wpM (newT [.d a, .d b]) W Q E = Q (.d (.tup [a, b])) W := w_newT (ds := [a, b])
@[simp] theorem w_newT_3 {a b c : D} : wpM (newT [.d a, .d b, .d c]) W Q E = Q (.d (.tup [a, b, c])) W := w_newT (ds := [a, b, c])
@[simp] theorem w_newT_4 {a b c d : D} : wpM (newT [.d a, .d b, .d c, .d d]) W Q E = Q (.d (.tup [a, b, c, d])) W := w_newT (ds := [a, b, c, d])
@[simp] theorem w_newT_5 {a b c d e : D} : wpM (newT [.d a, .d b, .d c, .d d, .d e]) W Q E = Q (.d (.tup [a, b, c, d, e])) W := w_newT (ds := [a, b, c, d, e])
/-! operators -/
@[simp] theorem opAdd_i {mk : Bool} {i j : Int} : opAdd mk (.d (.int i)) (.d (.int j)) = M.ret (.d (.int (i + j))) := (rfl)
@[simp] theorem opSub_i {i j : Int} : opSub (.d (.int i)) (.d (.int j)) = M.ret (.d (.int (i - j))) := (rfl)
@[simp] theorem w_opMul {mk : Bool} {i j : Int} : wpM (opMul mk (.d (.int i)) (.d (.int j))) W Q E = (CMulW i j ∧ Q (.d (.int (i * j))) W) := by
  show wpM ((M.guard _).bind _) W Q E = _
  rw [w_bind, w_guard]; rfl
@[simp] theorem w_opMod {i j : Int} : wpM (opMod (.d (.int i)) (.d (.int j))) W Q E = (0 < j ∧ Q (.d (.int (i % j))) W) := by
  show wpM ((M.guard _).bind _) W Q E = _
  rw [w_bind, w_guard]; rfl
@[simp] theorem w_opDiv {i j : Int} : wpM (opDiv (.d (.int i)) (.d (.int j))) W Q E = (CDivG i j ∧ Q (.d (.int (i.fdiv j))) W) := by
  show wpM ((M.guard _).bind _) W Q E = _
  rw [w_bind, w_guard]; rfl
@[simp] theorem w_opPow {i j : Int} : wpM (opPow (.d (.int i)) (.d (.int j))) W Q E = (CPow i j ∧ Q (.d (.int (i ^ j.toNat))) W) := by
  show wpM ((M.guard _).bind _) W Q E = _
  rw [w_bind, w_guard]; rfl
@[simp] theorem opLt_i {i j : Int} : opLt (.d (.int i)) (.d (.int j)) = M.ret (.d (.bl (decide (i < j)))) := (rfl)
@[simp] theorem opLe_i {i j : Int} : opLe (.d (.int i)) (.d (.int j)) = M.ret (.d (.bl (decide (i ≤ j)))) := (rfl)
@[simp] theorem opGt_i {i j : Int} : opGt (.d (.int i)) (.d (.int j)) = M.ret (.d (.bl (decide (j < i)))) := (rfl)
@[simp] theorem opGe_i {i j : Int} : opGe (.d (.int i)) (.d (.int j)) = M.ret (.d (.bl (decide (j ≤ i)))) := (rfl)
@[simp] theorem opEq_i {n : Bool} {i j : Int} : opEq n (.d (.int i)) (.d (.int j)) = M.ret (.d (.bl (decide (i = j) != n))) := (rfl)
@[simp] theorem opEq_s {n : Bool} {i j : Str} : opEq n (.d (.str i)) (.d (.str j)) = M.ret (.d (.bl (decide (i = j) != n))) := (rfl)
@[simp] theorem opEq_b {n : Bool} {i j : Bool} : opEq n (.d (.bl i)) (.d (.bl j)) = M.ret (.d (.bl (decide (i = j) != n))) := (rfl)
@[simp] theorem opIs_b {n : Bool} {i j : Bool} : opIs n (.d (.bl i)) (.d (.bl j)) = M.ret (.d (.bl (decide (i = j) != n))) := (rfl)
@[simp] theorem opIn_s {n : Bool} {i j : Str} : opIn n (.d (.str i)) (.d (.str j)) = M.ret (.d (.bl (strIn i j != n))) := (rfl)
@[simp] theorem w_opAddS {mk : Bool} {i j : Str} : wpM (opAdd mk (.d (.str i)) (.d (.str j))) W Q E = (i.length + j.length ≤ sizeLine ∧ Q (.d (.str (i ++ j))) W) := by
  show wpM ((M.guard _).bind _) W Q E = _
  rw [w_bind, w_guard]; rfl
/-! worlds -/
def seqM : Option MO → Option (Bool × List RV)
  | some (.lst xs) => some (false, xs)
  | some (.fz (.lst xs)) => some (false, xs.map .d)
  | some (.fz (.tup xs)) => some (true, xs.map .d)
  | _ => none
@[simp] theorem seqOf_r {l : Nat} : seqOf W (.r l) = seqM (W[l]?) := (rfl)
@[simp] theorem seqOf_l {xs : List D} : seqOf W (.d (.lst xs)) = some (false, xs.map .d) := (rfl)
@[simp] theorem seqOf_t {xs : List D} : seqOf W (.d (.tup xs)) = some (true, xs.map .d) := (rfl)
@[simp] theorem seqM_l {xs : List RV} : seqM (some (.lst xs)) = some (false, xs) := (rfl)
@[simp] theorem seqM_fl {xs : List D} : seqM (some (.fz (.lst xs))) = some (false, xs.map .d) := (rfl)
@[simp] theorem seqM_ft {xs : List D} : seqM (some (.fz (.tup xs))) = some (true, xs.map .d) := (rfl)
def lstM (l : Nat) : Option MO → Option (Nat × List RV)
  | some (.lst xs) => some (l, xs)
  | _ => none
@[simp] theorem lstAt_r {l : Nat} : lstAt W (.r l) = lstM l (W[l]?) := (rfl)
@[simp] theorem lstM_l {l : Nat} {xs : List RV} : lstM l (some (.lst xs)) = some (l, xs) := (rfl)
def ixK (i : Int) (o : Option (Bool × List RV)) : Option RV := match o with | some p => atI p.2 i | none => none
@[simp] theorem ixK_some {i : Int} {t : Bool} {xs : List RV} : ixK i (some (t, xs)) = atI xs i := (rfl)
theorem w_opIxL {u : RV} {i : Int} : wpM (opIxL u (.d (.int i))) W Q E = lookK (ixK i (seqOf W u)) Q W := by
  unfold opIxL
  rw [w_look]
  unfold ixK
  cases seqOf W u <;> rfl
@[simp] theorem w_opIx_r {l : Nat} {i : Int} : wpM (opIx (.r l) (.d (.int i))) W Q E = lookK (ixK i (seqOf W (.r l))) Q W := w_opIxL
@[simp] theorem w_opIx_l {xs : List D} {i : Int} : wpM (opIx (.d (.lst xs)) (.d (.int i))) W Q E = lookK (ixK i (seqOf W (.d (.lst xs)))) Q W := w_opIxL
@[simp] theorem w_opIx_t {xs : List D} {i : Int} : wpM (opIx (.d (.tup xs)) (.d (.int i))) W Q E = lookK (ixK i (seqOf W (.d (.tup xs)))) Q W := w_opIxL
@[simp] theorem atI_0 {α : Type} {a : α} {l : List α} : atI (a :: l) 0 = some a := by simp [atI, ixN]
@[simp] theorem atI_1 {α : Type} {a b : α} {l : List α} : atI (a :: b :: l) 1 = some b := by
  unfold atI ixN
  rw [if_pos (by decide), if_pos (by simp; omega)]; rfl
@[simp] theorem atI_2 {α : Type} {a b c : α} {l : List α} : atI (a :: b :: c :: l) 2 = some c := by
  unfold atI ixN
  rw [if_pos (by decide), if_pos (by simp; omega)]; rfl
@[simp] theorem atI_3 {α : Type} {a b c d : α} {l : List α} : atI (a :: b :: c :: d :: l) 3 = some d := by
  unfold atI ixN
  rw [if_pos (by decide), if_pos (by simp; omega)]; rfl
@[simp] theorem ixN_4_1 : ixN 4 1 = some 1 := (rfl)
@[simp] theorem ixN_4_2 : ixN 4 2 = some 2 := (rfl)
@[simp] theorem ixN_4_3 : ixN 4 3 = some 3 := (rfl)
@[simp] theorem ixN_3_0 : ixN 3 0 = some 0 := (rfl)
@[simp] theorem ixN_3_1 : ixN 3 1 = some 1 := (rfl)
@[simp] theorem ixN_3_2 : ixN 3 2 = some 2 := (rfl)
/-! built-in functions -/
@[simp] theorem bInt_i {i : Int} : bInt [.d (.int i)] = M.ret (.d (.int i)) := (rfl)
@[simp] theorem w_bLen_s {z : Str} : wpM (bLen [.d (.str z)]) W Q E = (z.length ≤ sizeLine ∧ Q (.d (.int z.length)) W) := by
  show wpM ((M.guard _).bind _) W Q E = _
  rw [w_bind, w_guard]; rfl
def lenF (p : Bool × List RV) : M RV := M.ret (.d (.int p.2.length))
@[simp] theorem lenF_ap {t : Bool} {xs : List RV} : lenF (t, xs) = M.ret (.d (.int xs.length)) := (rfl)
@[simp] theorem w_bLen_r {l : Nat} : wpM (bLen [.r l]) W Q E = lookK (seqOf W (.r l)) (kB lenF Q E) W := by
  show wpM ((M.look _).bind _) W Q E = _
  rw [w_bind, w_look]; rfl
@[simp] theorem w_bLen_l {xs : List D} : wpM (bLen [.d (.lst xs)]) W Q E = Q (.d (.int xs.length)) W := by
  unfold bLen
  dsimp only
  rw [w_bind, w_look]
  show Q (.d (.int ((xs.map RV.d).length : Nat))) W = _
  rw [List.length_map]
@[simp] theorem w_bLen_t {xs : List D} : wpM (bLen [.d (.tup xs)]) W Q E = Q (.d (.int xs.length)) W := by
  unfold bLen
  dsimp only
  rw [w_bind, w_look]
  show Q (.d (.int ((xs.map RV.d).length : Nat))) W = _
  rw [List.length_map]
@[simp] theorem w_bOrd {z : Str} : wpM (bOrd [.d (.str z)]) W Q E = (z.length = 1 ∧ Q (.d (.int (z.cps.getD 0 0 : Nat))) W) := by
  show wpM ((M.guard _).bind _) W Q E = _
  rw [w_bind, w_guard]; rfl
def isiK (ts : List Ty) (t : Option Ty) (Q : RV → Wd → Prop) (W : Wd) : Prop := match t with | some t => Q (.d (.bl (ts.any t.sub))) W | none => False
@[simp] theorem isiK_some {ts : List Ty} {t : Ty} : isiK ts (some t) Q W = Q (.d (.bl (ts.any t.sub))) W := (rfl)
def isiT (o : Option (List Ty)) (t : Option Ty) (Q : RV → Wd → Prop) (W : Wd) : Prop := match o with | some ts => isiK ts t Q W | none => False
@[simp] theorem isiT_some {ts : List Ty} {t : Option Ty} : isiT (some ts) t Q W = isiK ts t Q W := (rfl)
@[simp] theorem w_bIsi {u : RV} {y : D} : wpM (bIsi [u, .d y]) W Q E = isiT (tysOf y) (tyOf W u) Q W := by
  show wpM ((M.opt _).bind _) W Q E = _
  rw [w_bind]
  cases tysOf y with
  | none => rfl
  | some ts =>
    show wpM ((M.look _).bind _) W Q E = _
    rw [w_bind, w_look]
    show lookK (tyOf W u) _ W = isiK ts (tyOf W u) Q W
    cases tyOf W u <;> rfl
@[simp] theorem tysOf_1 {t : Ty} (h : t ≠ .non) : tysOf (.ty t) = some [t] := by
  show (if t = .non then none else some [t]) = _
  rw [if_neg h]
/-! methods -/
def mthA (f : RV → List RV → M RV) (R : Env → M (List RV)) (δ : Env) (u : RV) : M RV := (M.look fun W => (seqOf W u).bind fun p => if p.1 then none else some ()).bind fun _ => (R δ).bind fun us => f u us
@[simp] theorem w_mth {f : RV → List RV → M RV} : wpM (evMth f F R δ) W Q E = wpM (F δ) W (kB (mthA f R δ) Q E) E := propext wpM_bind
def mthK (f : RV → List RV → M RV) (R : Env → M (List RV)) (δ : Env) (u : RV) (o : Option (Bool × List RV)) (Q : RV → Wd → Prop) (E : DX → Wd → Prop) (W : Wd) : Prop := match o with
  | some (false, _) => wpM (R δ) W (kB (f u) Q E) E
  | _ => False
@[simp] theorem mthK_l {f : RV → List RV → M RV} {u : RV} {xs : List RV} : mthK f R δ u (some (false, xs)) Q E W = wpM (R δ) W (kB (f u) Q E) E := (rfl)
@[simp] theorem w_mthA {f : RV → List RV → M RV} {u : RV} : wpM (mthA f R δ u) W Q E = mthK f R δ u (seqOf W u) Q E W := by
  unfold mthA mthK
  rw [w_bind, w_look]
  cases seqOf W u with
  | none => rfl
  | some p =>
    obtain ⟨t, xs⟩ := p
    cases t with
    | true => rfl
    | false =>
      show wpM ((R δ).bind _) W Q E = _
      rw [w_bind]
def popK (i : Int) (o : Option (Nat × List RV)) (Q : RV → Wd → Prop) (W : Wd) : Prop := match o with
  | some (l, xs) => match seqIndex? i xs.length with
    | some k => match xs[k]? with
      | some y => (-(2 ^ 63) ≤ i ∧ i < 2 ^ 63) ∧ Q y (W.set l (.lst (xs.eraseIdx k)))
      | none => False
    | none => False
  | none => False
@[simp] theorem w_mPop {u : RV} {i : Int} : wpM (mPop u [.d (.int i)]) W Q E = popK i (lstAt W u) Q W := by
  unfold mPop popK
  rw [w_bind, w_look]
  cases lstAt W u with
  | none => rfl
  | some p =>
    obtain ⟨l, xs⟩ := p
    dsimp only [Option.bind]
    cases seqIndex? i xs.length with
    | none => rfl
    | some k =>
      dsimp only
      cases xs[k]? with
      | none => rfl
      | some y =>
        simp only [Option.map, lookK_some, kB_ap]
        rw [w_bind, w_guard]
        rfl
theorem popK_at {i : Int} {l k : Nat} {xs : List RV} {y : RV} (h1 : 0 ≤ i) (h2 : i.toNat = k) (h3 : xs[k]? = some y) (h4 : i < 2 ^ 63) : popK i (some (l, xs)) Q W = Q y (W.set l (.lst (xs.eraseIdx k))) := by
  have lt : k < xs.length := (List.getElem?_eq_some_iff.mp h3).1
  have e : seqIndex? i xs.length = some k := by
    unfold seqIndex?
    have h5 : ¬ i < 0 := by omega
    have h6 : i < (xs.length : Int) := by omega
    simp only [if_neg h5]
    simp [h1, h6, h2]
  unfold popK
  dsimp only
  rw [e]
  dsimp only
  rw [h3]
  dsimp only
  exact propext ⟨fun h => h.2, fun h => ⟨⟨by omega, h4⟩, h⟩⟩
def appK (v : RV) (o : Option (Nat × List RV)) (Q : RV → Wd → Prop) (W : Wd) : Prop := match o with
  | some (l, xs) => xs.length < sizeLine ∧ Q (.d .non) (W.set l (.lst (xs ++ [v])))
  | none => False
@[simp] theorem appK_some {v : RV} {l : Nat} {xs : List RV} : appK v (some (l, xs)) Q W = (xs.length < sizeLine ∧ Q (.d .non) (W.set l (.lst (xs ++ [v])))) := (rfl)
@[simp] theorem w_mAppend {u v : RV} : wpM (mAppend u [v]) W Q E = appK v (lstAt W u) Q W := by
  unfold mAppend appK
  rw [w_bind, w_look]
  cases lstAt W u with
  | none => rfl
  | some p =>
    obtain ⟨l, xs⟩ := p
    simp only [lookK_some, kB_ap]
    rw [w_bind, w_guard]
    rfl
/-! defs -/
def gcQ (W0 : Wd) (Q : RV → Wd → Prop) (v : RV) (W : Wd) : Prop := match v with
  | .d x => Q (.d x) (gcW W0 W)
  | .r l => Q (.r l) W
def gcE (W0 : Wd) (E : DX → Wd → Prop) (x : DX) (W : Wd) : Prop := E x (gcW W0 W)
@[simp] theorem gcQ_d {W0 : Wd} {x : D} : gcQ W0 Q (.d x) W = Q (.d x) (gcW W0 W) := (rfl)
@[simp] theorem gcQ_r {W0 : Wd} {l : Nat} : gcQ W0 Q (.r l) W = Q (.r l) W := (rfl)
@[simp] theorem gcE_ap {W0 : Wd} {x : DX} : gcE W0 E x W = E x (gcW W0 W) := (rfl)
def kFn (W0 : Wd) (Q : RV → Wd → Prop) (p : Fl × Env) (W : Wd) : Prop := match p.1 with
  | .rt v => gcQ W0 Q v W
  | .nx => gcQ W0 Q (.d .non) W
  | _ => False
theorem w_gcM {m : M RV} : wpM (gcM m) W Q E = wpM m W (gcQ W Q) (gcE W E) := by
  unfold wpM gcM
  cases m W with
  | none => rfl
  | some p =>
    obtain ⟨r, W'⟩ := p
    cases r with
    | error x => rfl
    | ok v => cases v <;> rfl
theorem w_fnD {n : Nat} {Fm : Env → M (Fl × Env)} {rvs : List RV} : wpM (fnD n Fm rvs) W Q E = wpM (Fm (startD n rvs)) W (kFn W Q) (gcE W E) := by
  unfold fnD
  rw [w_gcM]
  unfold fnD0
  rw [w_bind]
  congr 1
  funext p W'
  obtain ⟨f, δ'⟩ := p
  cases f <;> rfl
@[simp] theorem kFn_rt {W0 : Wd} {v : RV} : kFn W0 Q (.rt v, δ) W = gcQ W0 Q v W := (rfl)
@[simp] theorem kFn_nx {W0 : Wd} : kFn W0 Q (.nx, δ) W = gcQ W0 Q (.d .non) W := (rfl)
/-! ### what is left behind a call -/
theorem gcW_of {W W' W1 X : Wd} (h : W' = W1 ++ X) (hl : W1.length = W.length) (g : ∀ (l : Nat) (o : MO), l < W.length → W1[l]? = some o → W[l]? = some o ∨ o.below W.length = true) : gcW W W' = W1 := by
  subst h
  unfold gcW
  rw [if_pos ⟨by rw [List.length_append]; omega, fun l o h1 h2 => g l o h1 (by rwa [List.getElem?_append_left (by omega)] at h2)⟩]
  rw [← hl, List.take_left]
@[simp] theorem gcW_app {W X : Wd} : gcW W (W ++ X) = W := gcW_of rfl rfl fun _ _ _ h => .inl h
@[simp] theorem gcW_self {W : Wd} : gcW W W = W := by have := gcW_app (W := W) (X := []); rwa [List.append_nil] at this
theorem gcW_len {W W' : Wd} (h : W'.length = W.length) : gcW W W' = W' := by
  unfold gcW
  split
  · rw [← h, List.take_length]
  · rfl
end
end DL
set_option Elab.async false
set_option linter.all false
set_option maxRecDepth 100000
set_option maxHeartbeats 4000000
/-! DL15: loops evaluated. -/
namespace DL
open PySem PySem.Spec PyProof.Rows L2 RZ
section
variable {W : Wd} {E : DX → Wd → Prop} {δ : Env} {Q : RV → Wd → Prop} {QS' : Fl × Env → Wd → Prop} {QB' : Bool → Wd → Prop} {QL : List RV → Wd → Prop} {QG : Env → Wd → Prop} {QD : List D → Wd → Prop} {Fa Fb F : Env → M RV} {R : Env → M (List RV)} {B : Env → M (Fl × Env)} {Ta : Env → M Bool} {T : RV → Env → M Env} {S : Env → M (List D)}
theorem wpM_and {α : Type} {m : M α} {Q Q' : α → Wd → Prop} (h : wpM m W Q E) (h' : ∀ a W', Q a W' → Q' a W') : wpM m W Q' E := wpM_mono h h' fun _ _ e => e
/-! while -/
def whG (T : Env → M Bool) (B : Env → M (Fl × Env)) (n : Nat) (p : Fl × Env) : M (Fl × Env) := match p.1 with
  | .nx => evWhile T B n p.2
  | .ct => evWhile T B n p.2
  | .bk => M.ret (.nx, p.2)
  | .rt v => M.ret (.rt v, p.2)
@[simp] theorem whG_nx {n : Nat} : whG Ta B n (.nx, δ) = evWhile Ta B n δ := (rfl)
@[simp] theorem whG_ct {n : Nat} : whG Ta B n (.ct, δ) = evWhile Ta B n δ := (rfl)
@[simp] theorem whG_bk {n : Nat} : whG Ta B n (.bk, δ) = M.ret (.nx, δ) := (rfl)
@[simp] theorem whG_rt {n : Nat} {v : RV} : whG Ta B n (.rt v, δ) = M.ret (.rt v, δ) := (rfl)
def whF (T : Env → M Bool) (B : Env → M (Fl × Env)) (n : Nat) (δ : Env) (b : Bool) : M (Fl × Env) := if b then (B δ).bind (whG T B n) else M.ret (.nx, δ)
@[simp] theorem w_whF_t {n : Nat} : wpM (whF Ta B n δ true) W QS' E = wpM (B δ) W (kB (whG Ta B n) QS' E) E := propext wpM_bind
@[simp] theorem w_whF_f {n : Nat} : wpM (whF Ta B n δ false) W QS' E = QS' (.nx, δ) W := (rfl)
theorem w_while {n : Nat} : wpM (evWhile Ta B (n + 1) δ) W QS' E = wpM (Ta δ) W (kB (whF Ta B n δ) QS' E) E := by
  rw [evWhile, w_bind]
  congr 1
/-! for -/
def forF (T : RV → Env → M Env) (B : Env → M (Fl × Env)) (δ : Env) (ds : List D) : M (Fl × Env) := goFor T B ds δ
@[simp] theorem w_for : wpM (evFor S T B δ) W QS' E = wpM (S δ) W (kB (forF T B δ) QS' E) E := propext wpM_bind
def forG (T : RV → Env → M Env) (B : Env → M (Fl × Env)) (ds : List D) (p : Fl × Env) : M (Fl × Env) := match p.1 with
  | .nx => goFor T B ds p.2
  | .ct => goFor T B ds p.2
  | .bk => M.ret (.nx, p.2)
  | .rt v => M.ret (.rt v, p.2)
@[simp] theorem forG_nx {ds : List D} : forG T B ds (.nx, δ) = goFor T B ds δ := (rfl)
@[simp] theorem forG_ct {ds : List D} : forG T B ds (.ct, δ) = goFor T B ds δ := (rfl)
@[simp] theorem forG_bk {ds : List D} : forG T B ds (.bk, δ) = M.ret (.nx, δ) := (rfl)
@[simp] theorem forG_rt {ds : List D} {v : RV} : forG T B ds (.rt v, δ) = M.ret (.rt v, δ) := (rfl)
def forH (T : RV → Env → M Env) (B : Env → M (Fl × Env)) (ds : List D) (δ : Env) : M (Fl × Env) := (B δ).bind (forG T B ds)
@[simp] theorem w_forH {ds : List D} : wpM (forH T B ds δ) W QS' E = wpM (B δ) W (kB (forG T B ds) QS' E) E := propext wpM_bind
theorem w_goFor {d : D} {ds : List D} : wpM (goFor T B (d :: ds) δ) W QS' E = wpM (T (.d d) δ) W (kB (forH T B ds) QS' E) E := by
  rw [goFor, w_bind]
  rfl
theorem w_goFor0 : wpM (goFor T B [] δ) W QS' E = QS' (.nx, δ) W := rfl
/-- a for without break, by an invariant -/
theorem goFor_inv (P : Nat → Env → Wd → Prop) (ds0 : List D) (step : ∀ i d δ W, ds0[i]? = some d → P i δ W → wpM (T (.d d) δ) W (kB (fun δ1 => B δ1) (fun p W' => (p.1 = .nx ∨ p.1 = .ct) ∧ P (i + 1) p.2 W') E) E) :
    ∀ (ds : List D) (i : Nat) (δ : Env) (W : Wd), ds = ds0.drop i → i ≤ ds0.length → P i δ W → wpM (goFor T B ds δ) W (fun p W' => p.1 = .nx ∧ P ds0.length p.2 W') E
  | [], i, δ, W, e, hi, h => by
    have : i = ds0.length := by
      have := congrArg List.length e
      rw [List.length_nil, List.length_drop] at this
      omega
    subst this
    exact ⟨rfl, h⟩
  | d :: ds, i, δ, W, e, hi, h => by
    have hlt : i < ds0.length := by
      have := congrArg List.length e
      rw [List.length_cons, List.length_drop] at this
      omega
    rw [List.drop_eq_getElem_cons hlt] at e
    injection e with e1 e2
    rw [w_goFor]
    refine wpM_mono (step i d δ W (by rw [List.getElem?_eq_getElem hlt, e1]) h) (fun δ1 W1 h1 => ?_) fun _ _ e => e
    rw [kB_ap, w_forH]
    refine wpM_mono h1 (fun p W2 h2 => ?_) fun _ _ e => e
    obtain ⟨f, δ2⟩ := p
    obtain ⟨hf, h2⟩ := h2
    rcases hf with hf | hf
    · obtain rfl : f = .nx := hf
      exact goFor_inv P ds0 step ds (i + 1) δ2 W2 e2 hlt h2
    · obtain rfl : f = .ct := hf
      exact goFor_inv P ds0 step ds (i + 1) δ2 W2 e2 hlt h2
/-! what is walked -/
def iterA (u : RV) : M (List D) := (toD u).bind itemsOf
@[simp] theorem w_iter : wpM (evIter F δ) W QD E = wpM (F δ) W (kB iterA QD E) E := propext wpM_bind
@[simp] theorem iterA_l {xs : List D} : iterA (.d (.lst xs)) = M.ret xs := (rfl)
@[simp] theorem iterA_t {xs : List D} : iterA (.d (.tup xs)) = M.ret xs := (rfl)
@[simp] theorem iterA_s {z : Str} : iterA (.d (.str z)) = M.ret (charsOf z) := (rfl)
def rng1 (us : List RV) : M (List D) := (M.opt (intsL us)).bind fun ns => match ns with
  | [j] => (M.guard (-(2 ^ 62) ≤ j ∧ j < 2 ^ 62)).bind fun _ => M.ret (intsFrom 0 j.toNat)
  | _ => M.fail
@[simp] theorem w_range1 : wpM (evRange1 R δ) W QD E = wpM (R δ) W (kB rng1 QD E) E := propext wpM_bind
theorem w_rng1 {j : Int} : wpM (rng1 [.d (.int j)]) W QD E = ((-(2 ^ 62) ≤ j ∧ j < 2 ^ 62) ∧ QD (intsFrom 0 j.toNat) W) := by
  show wpM ((M.guard _).bind _) W QD E = _
  rw [w_bind, w_guard]; rfl
@[simp] theorem w_rng1n {k : Nat} : wpM (rng1 [.d (.int (k : Nat))]) W QD E = (k < 2 ^ 62 ∧ QD (intsFrom 0 k) W) := by
  rw [w_rng1]
  refine propext ⟨fun h => ⟨?_, ?_⟩, fun h => ⟨⟨?_, ?_⟩, ?_⟩⟩
  · have := h.1.2; omega
  · have := h.2; rwa [Int.toNat_natCast] at this
  · omega
  · have := h.1; omega
  · rw [Int.toNat_natCast]; exact h.2
@[simp] theorem w_rng1l {k : Nat} : wpM (rng1 [.d (.int (@OfNat.ofNat Int k instOfNat))]) W QD E = (k < 2 ^ 62 ∧ QD (intsFrom 0 k) W) := w_rng1n (k := k)
def rng2 (us : List RV) : M (List D) := (M.opt (intsL us)).bind fun ns => match ns with
  | [i, j] => (M.guard (-(2 ^ 62) ≤ i ∧ i < 2 ^ 62 ∧ -(2 ^ 62) ≤ j ∧ j < 2 ^ 62)).bind fun _ => M.ret (intsFrom i (j - i).toNat)
  | _ => M.fail
@[simp] theorem w_range2 : wpM (evRange2 R δ) W QD E = wpM (R δ) W (kB rng2 QD E) E := propext wpM_bind
@[simp] theorem w_rng2 {i j : Int} : wpM (rng2 [.d (.int i), .d (.int j)]) W QD E = ((-(2 ^ 62) ≤ i ∧ i < 2 ^ 62 ∧ -(2 ^ 62) ≤ j ∧ j < 2 ^ 62) ∧ QD (intsFrom i (j - i).toNat) W) := by
  show wpM ((M.guard _).bind _) W QD E = _
  rw [w_bind, w_guard]; rfl
def enumA (us : List RV) : M (List D) := match us with
  | [u] => (toD u).bind itemsE
  | _ => M.fail
@[simp] theorem w_enum : wpM (evEnum R δ) W QD E = wpM (R δ) W (kB enumA QD E) E := by
  unfold evEnum
  rw [w_bind]
  congr 2
@[simp] theorem enumA_l {xs : List D} : enumA [.d (.lst xs)] = M.ret (enumD xs) := (rfl)
@[simp] theorem enumA_s {z : Str} : enumA [.d (.str z)] = M.ret (enumD (charsOf z)) := (rfl)
def zipA (us : List RV) : M (List D) := match us with
  | [u, v] => (toD u).bind fun x => (toD v).bind fun y => itemsZ x y
  | _ => M.fail
@[simp] theorem w_zip : wpM (evZip R δ) W QD E = wpM (R δ) W (kB zipA QD E) E := by
  unfold evZip
  rw [w_bind]
  congr 2
@[simp] theorem zipA_l {xs ys : List D} : zipA [.d (.lst xs), .d (.lst ys)] = M.ret (zipD xs ys) := (rfl)
@[simp] theorem zipA_t {xs ys : List D} : zipA [.d (.tup xs), .d (.tup ys)] = M.ret (zipD xs ys) := (rfl)
/-! toD, freezing -/
@[simp] theorem w_toD_d {x : D} {QX : D → Wd → Prop} : wpM (toD (.d x)) W QX E = QX x W := (rfl)
def frzP (l : Nat) (m : MO) (o : Option D) (QX : D → Wd → Prop) (W : Wd) : Prop := match o with
  | some d => QX d (if isFz m then W else W.set l (.fz d))
  | none => False
def frzM (l : Nat) (o : Option MO) (QX : D → Wd → Prop) (W : Wd) : Prop := match o with
  | some m => frzP l m (pureM m) QX W
  | none => False
@[simp] theorem w_toD_r {l : Nat} {QX : D → Wd → Prop} : wpM (toD (.r l)) W QX E = frzM l (W[l]?) QX W := by
  unfold wpM toD frzM
  dsimp only
  cases W[l]? with
  | none => rfl
  | some o =>
    dsimp only
    unfold frzP
    cases pureM o <;> rfl
def frzL (l : Nat) (o : Option (List D)) (QX : D → Wd → Prop) (W : Wd) : Prop := match o with | some ds => QX (.lst ds) (W.set l (.fz (.lst ds))) | none => False
@[simp] theorem frzL_some {l : Nat} {ds : List D} {QX : D → Wd → Prop} : frzL l (some ds) QX W = QX (.lst ds) (W.set l (.fz (.lst ds))) := (rfl)
@[simp] theorem frzM_lst {l : Nat} {xs : List RV} {QX : D → Wd → Prop} : frzM l (some (.lst xs)) QX W = frzL l (pureL xs) QX W := by
  unfold frzM frzP frzL pureM
  dsimp only
  cases pureL xs <;> rfl
def frzO (l : Nat) (C : Addr) (o : Option (List (Str × D))) (QX : D → Wd → Prop) (W : Wd) : Prop := match o with | some ds => QX (.obj C ds) (W.set l (.fz (.obj C ds))) | none => False
@[simp] theorem frzO_some {l : Nat} {C : Addr} {ds : List (Str × D)} {QX : D → Wd → Prop} : frzO l C (some ds) QX W = QX (.obj C ds) (W.set l (.fz (.obj C ds))) := (rfl)
@[simp] theorem frzM_ins {l : Nat} {C : Addr} {xs : List (Str × RV)} {QX : D → Wd → Prop} : frzM l (some (.ins C xs)) QX W = frzO l C (pureF xs) QX W := by
  unfold frzM frzP frzO pureM
  dsimp only
  cases pureF xs <;> rfl
@[simp] theorem frzM_dK {l : Nat} {ds : List (Key × D)} {QX : D → Wd → Prop} : frzM l (some (.dK ds)) QX W = QX (.dK ds) (W.set l (.fz (.dK ds))) := (rfl)
@[simp] theorem frzM_dT {l : Nat} {ds : List (List Key × D)} {QX : D → Wd → Prop} : frzM l (some (.dT ds)) QX W = QX (.dT ds) (W.set l (.fz (.dT ds))) := (rfl)
@[simp] theorem frzM_no {l : Nat} {QX : D → Wd → Prop} : frzM l none QX W = False := (rfl)
@[simp] theorem pureL_nil : pureL [] = some [] := (rfl)
@[simp] theorem pureL_cons {z : D} {r : List RV} : pureL (.d z :: r) = (pureL r).map (z :: ·) := (rfl)
@[simp] theorem pureF_nil : pureF [] = some [] := (rfl)
@[simp] theorem pureF_cons {f : Str} {z : D} {r : List (Str × RV)} : pureF ((f, .d z) :: r) = (pureF r).map ((f, z) :: ·) := (rfl)
@[simp] theorem pureL_map : ∀ {ds : List D}, pureL (ds.map RV.d) = some ds
  | [] => rfl
  | d :: ds => by
    show (pureL (ds.map RV.d)).map (d :: ·) = _
    rw [pureL_map]; rfl
theorem frzM_l {l : Nat} {ds : List D} {QX : D → Wd → Prop} : frzM l (some (.lst (ds.map RV.d))) QX W = QX (.lst ds) (W.set l (.fz (.lst ds))) := by
  rw [frzM_lst, pureL_map]; rfl
@[simp] theorem frzM_f {l : Nat} {x : D} {QX : D → Wd → Prop} : frzM l (some (.fz x)) QX W = QX x W := (rfl)
def frzA (u : RV) : M RV := (toD u).bind fun d => M.ret (.d d)
def frzB (d : D) : M RV := M.ret (.d d)
@[simp] theorem frzB_ap {d : D} : frzB d = M.ret (.d d) := (rfl)
@[simp] theorem w_frz : wpM (evFrz F δ) W Q E = wpM (F δ) W (kB frzA Q E) E := propext wpM_bind
@[simp] theorem w_frzA {u : RV} : wpM (frzA u) W Q E = wpM (toD u) W (kB frzB Q E) E := propext wpM_bind
@[simp] theorem w_iterA_r {l : Nat} : wpM (iterA (.r l)) W QD E = frzM l (W[l]?) (kB itemsOf QD E) W := by
  show wpM ((toD _).bind _) W QD E = _
  rw [w_bind, w_toD_r]
@[simp] theorem itemsOf_l {xs : List D} : itemsOf (.lst xs) = M.ret xs := (rfl)
@[simp] theorem itemsOf_t {xs : List D} : itemsOf (.tup xs) = M.ret xs := (rfl)
/-! comprehensions -/
theorem w_noEr {α : Type} {m : M α} {QX : α → Wd → Prop} (h : wpM m W QX (fun _ _ => False)) : wpM (noEr m) W QX E := by
  unfold wpM at h
  unfold wpM noEr
  cases e : m W with
  | none => rw [e] at h; exact h.elim
  | some p =>
    obtain ⟨r, W'⟩ := p
    rw [e] at h
    cases r with
    | ok a => exact h
    | error x => exact h.elim
def lcF (mk : Bool) (T : RV → Env → M Env) (C : Env → M Bool) (Ee : Env → M RV) (δ : Env) (ds : List D) : M RV := noEr (goLc mk T C Ee δ ds [])
@[simp] theorem w_lc {mk : Bool} {own : List Nat} : wpM (evLc mk own S T Ta F δ) W Q E = wpM (S δ) W (kB (lcF mk T Ta F (wipeD δ own)) Q E) E := propext wpM_bind
def lcC (mk : Bool) (T : RV → Env → M Env) (C : Env → M Bool) (Ee : Env → M RV) (δ : Env) (ds : List D) (acc : List RV) (δ1 : Env) : M RV := (C δ1).bind fun b => if b then (Ee δ1).bind fun v => (M.guard (acc.length < sizeLine)).bind fun _ => goLc mk T C Ee δ ds (acc ++ [v]) else goLc mk T C Ee δ ds acc
def lcI (mk : Bool) (T : RV → Env → M Env) (C : Env → M Bool) (Ee : Env → M RV) (δ : Env) (ds : List D) (acc : List RV) (δ1 : Env) (b : Bool) : M RV := if b then (Ee δ1).bind fun v => (M.guard (acc.length < sizeLine)).bind fun _ => goLc mk T C Ee δ ds (acc ++ [v]) else goLc mk T C Ee δ ds acc
def lcV (mk : Bool) (T : RV → Env → M Env) (C : Env → M Bool) (Ee : Env → M RV) (δ : Env) (ds : List D) (acc : List RV) (v : RV) : M RV := (M.guard (acc.length < sizeLine)).bind fun _ => goLc mk T C Ee δ ds (acc ++ [v])
theorem w_goLc {mk : Bool} {d : D} {ds : List D} {acc : List RV} : wpM (goLc mk T Ta F δ (d :: ds) acc) W Q E = wpM (T (.d d) δ) W (kB (lcC mk T Ta F δ ds acc) Q E) E := by
  rw [goLc, w_bind]
  rfl
theorem w_goLc0 {mk : Bool} {acc : List RV} : wpM (goLc mk T Ta F δ [] acc) W Q E = wpM (newL mk acc) W Q E := rfl
@[simp] theorem w_lcC {mk : Bool} {ds : List D} {acc : List RV} {δ1 : Env} : wpM (lcC mk T Ta F δ ds acc δ1) W Q E = wpM (Ta δ1) W (kB (lcI mk T Ta F δ ds acc δ1) Q E) E := propext wpM_bind
@[simp] theorem w_lcI_f {mk : Bool} {ds : List D} {acc : List RV} {δ1 : Env} : wpM (lcI mk T Ta F δ ds acc δ1 false) W Q E = wpM (goLc mk T Ta F δ ds acc) W Q E := (rfl)
@[simp] theorem w_lcI_t {mk : Bool} {ds : List D} {acc : List RV} {δ1 : Env} : wpM (lcI mk T Ta F δ ds acc δ1 true) W Q E = wpM (F δ1) W (kB (lcV mk T Ta F δ ds acc) Q E) E := propext wpM_bind
@[simp] theorem w_lcV {mk : Bool} {ds : List D} {acc : List RV} {v : RV} : wpM (lcV mk T Ta F δ ds acc v) W Q E = (acc.length < sizeLine ∧ wpM (goLc mk T Ta F δ ds (acc ++ [v])) W Q E) := by
  unfold lcV
  rw [w_bind, w_guard]; rfl
/-- a comprehension by an invariant over what is gathered -/
theorem goLc_inv {mk : Bool} (P : Nat → List RV → Wd → Prop) (ds0 : List D) (hz : ds0.length < sizeLine)
    (step : ∀ i d acc W, ds0[i]? = some d → P i acc W → wpM (T (.d d) δ) W (fun δ1 W1 => wpM (Ta δ1) W1 (fun b W2 => if b then wpM (F δ1) W2 (fun v W3 => P (i + 1) (acc ++ [v]) W3) E else P (i + 1) acc W2) E) E) :
    ∀ (ds : List D) (i : Nat) (acc : List RV) (W : Wd), ds = ds0.drop i → i ≤ ds0.length → acc.length ≤ i → P i acc W → (∀ acc W, acc.length ≤ ds0.length → P ds0.length acc W → wpM (newL mk acc) W Q E) → wpM (goLc mk T Ta F δ ds acc) W Q E
  | [], i, acc, W, e, hi, hl, h, fin => by
    have : i = ds0.length := by
      have := congrArg List.length e
      rw [List.length_nil, List.length_drop] at this
      omega
    subst this
    exact fin acc W hl h
  | d :: ds, i, acc, W, e, hi, hl, h, fin => by
    have hlt : i < ds0.length := by
      have := congrArg List.length e
      rw [List.length_cons, List.length_drop] at this
      omega
    rw [List.drop_eq_getElem_cons hlt] at e
    injection e with e1 e2
    rw [w_goLc]
    refine wpM_mono (step i d acc W (by rw [List.getElem?_eq_getElem hlt, e1]) h) (fun δ1 W1 h1 => ?_) fun _ _ e => e
    rw [kB_ap, w_lcC]
    refine wpM_mono h1 (fun b W2 h2 => ?_) fun _ _ e => e
    cases b with
    | false => exact goLc_inv P ds0 hz step ds (i + 1) acc W2 e2 hlt (by omega) h2 fin
    | true =>
      rw [kB_ap, w_lcI_t]
      refine wpM_mono h2 (fun v W3 h3 => ?_) fun _ _ e => e
      rw [kB_ap, w_lcV]
      exact ⟨by omega, goLc_inv P ds0 hz step ds (i + 1) (acc ++ [v]) W3 e2 hlt (by rw [List.length_append, List.length_singleton]; omega) h3 fin⟩
/-- a comprehension of pure tests and items, the world left as it is -/
theorem goLc_fm {ds0 : List D} (c : D → Bool) (f : D → D) (hz : ds0.length < sizeLine)
    (step : ∀ d, d ∈ ds0 → wpM (T (.d d) δ) W (fun δ1 W1 => wpM (Ta δ1) W1 (fun b W2 => b = c d ∧ (b = true → wpM (F δ1) W2 (fun v W3 => v = .d (f d) ∧ W3 = W) E) ∧ (b = false → W2 = W)) E) E) (h : Q (.d (.lst ((ds0.filter c).map f))) W) :
    wpM (goLc false T Ta F δ ds0 []) W Q E := by
  refine goLc_inv (P := fun i acc W' => acc = ((((ds0.take i).filter c).map f).map RV.d) ∧ W' = W) ds0 hz (fun i d acc W' hd hp => ?_) ds0 0 [] W rfl (Nat.zero_le _) (Nat.le_refl _) ⟨by simp, rfl⟩ fun acc W' _ hp => ?_
  · obtain ⟨rfl, rfl⟩ := hp
    have hm := List.mem_of_getElem? hd
    refine wpM_and (step d hm) fun δ1 W1 h1 => wpM_and h1 fun b W2 h2 => ?_
    obtain ⟨rfl, h3, h4⟩ := h2
    rw [List.take_add_one, hd]
    cases e : c d with
    | true =>
      rw [if_pos rfl]
      refine wpM_and (h3 e) fun v W3 h5 => ?_
      obtain ⟨rfl, rfl⟩ := h5
      simp [List.filter_append, e]
    | false =>
      rw [if_neg (by decide)]
      rw [h4 e]
      simp [List.filter_append, e]
  · obtain ⟨rfl, rfl⟩ := hp
    rw [w_newL_f, List.take_length]
    exact h
end
end DL
set_option Elab.async false
set_option linter.all false
set_option maxRecDepth 100000
set_option maxHeartbeats 4000000
/-! DL16: slices, joins, list(), +, evaluated. -/
namespace DL
open PySem PySem.Spec PyProof.Rows L2 RZ
section
variable {W : Wd} {E : DX → Wd → Prop} {δ : Env} {Q : RV → Wd → Prop} {QO : Option Int → Wd → Prop} {Fa Fb F : Env → M RV} {R : Env → M (List RV)} {Lo Hi : Env → M (Option Int)}
def oSF (u : RV) : M (Option Int) := (asI u).bind fun i => M.ret (some i)
@[simp] theorem oSF_i {i : Int} : oSF (.d (.int i)) = M.ret (some i) := (rfl)
@[simp] theorem w_oS : wpM (oS F δ) W QO E = wpM (F δ) W (kB oSF QO E) E := propext wpM_bind
def slA (mk : Bool) (Lo Hi : Env → M (Option Int)) (δ : Env) (u : RV) : M RV := (Lo δ).bind fun lo => (Hi δ).bind fun hi => opSl mk u lo hi
def slB (mk : Bool) (Hi : Env → M (Option Int)) (δ : Env) (u : RV) (lo : Option Int) : M RV := (Hi δ).bind fun hi => opSl mk u lo hi
def slC (mk : Bool) (u : RV) (lo hi : Option Int) : M RV := opSl mk u lo hi
@[simp] theorem w_sl {mk : Bool} : wpM (evSl mk F Lo Hi δ) W Q E = wpM (F δ) W (kB (slA mk Lo Hi δ) Q E) E := propext wpM_bind
@[simp] theorem w_slA {mk : Bool} {u : RV} : wpM (slA mk Lo Hi δ u) W Q E = wpM (Lo δ) W (kB (slB mk Hi δ u) Q E) E := propext wpM_bind
@[simp] theorem w_slB {mk : Bool} {u : RV} {lo : Option Int} : wpM (slB mk Hi δ u lo) W Q E = wpM (Hi δ) W (kB (slC mk u lo) Q E) E := propext wpM_bind
@[simp] theorem w_slC_s {mk : Bool} {z : Str} {lo hi : Option Int} : wpM (slC mk (.d (.str z)) lo hi) W Q E = (z.length ≤ sizeLine ∧ Q (.d (.str (cutS z lo hi))) W) := by
  show wpM ((M.guard _).bind _) W Q E = _
  rw [w_bind, w_guard]; rfl
theorem cutL_map {α β : Type} (f : α → β) (xs : List α) (lo hi : Option Int) : cutL (xs.map f) lo hi = (cutL xs lo hi).map f := by
  unfold cutL
  rw [List.length_map, ← List.map_drop, ← List.map_take]
def slK (mk : Bool) (lo hi : Option Int) (p : Bool × List RV) : M RV := if p.1 then (M.guard (¬ (HT.sIx p.2.length 0 lo = 0 ∧ HT.sIx p.2.length p.2.length hi = p.2.length))).bind fun _ => newT (cutL p.2 lo hi) else newL mk (cutL p.2 lo hi)
@[simp] theorem slK_f {mk : Bool} {lo hi : Option Int} {xs : List RV} : slK mk lo hi (false, xs) = newL mk (cutL xs lo hi) := (rfl)
@[simp] theorem w_slC_r {mk : Bool} {l : Nat} {lo hi : Option Int} : wpM (slC mk (.r l) lo hi) W Q E = lookK (seqOf W (.r l)) (kB (slK mk lo hi) Q E) W := by
  show wpM ((M.look _).bind _) W Q E = _
  rw [w_bind, w_look]; rfl
@[simp] theorem w_slC_l {xs : List D} {lo hi : Option Int} : wpM (slC false (.d (.lst xs)) lo hi) W Q E = Q (.d (.lst (cutL xs lo hi))) W := by
  unfold slC opSl
  dsimp only
  rw [w_bind, w_look]
  show wpM (newL false (cutL (xs.map RV.d) lo hi)) W Q E = _
  rw [cutL_map, w_newL_f]
@[simp] theorem w_slC_lt {xs : List D} {lo hi : Option Int} : wpM (slC true (.d (.lst xs)) lo hi) W Q E = Q (.r W.length) (W ++ [.lst ((cutL xs lo hi).map RV.d)]) := by
  unfold slC opSl
  dsimp only
  rw [w_bind, w_look]
  show wpM (newL true (cutL (xs.map RV.d) lo hi)) W Q E = _
  rw [cutL_map]; rfl
/-! methods of texts -/
def mth1B (f : Str → RV → M RV) (s : Str) (v : RV) : M RV := f s v
@[simp] theorem mth1B_ap {f : Str → RV → M RV} {s : Str} {v : RV} : mth1B f s v = f s v := (rfl)
def mth1A (f : Str → RV → M RV) (Fa : Env → M RV) (δ : Env) (u : RV) : M RV := (M.opt (match u with | .d (.str s) => some s | _ => none)).bind fun s => (Fa δ).bind fun v => f s v
@[simp] theorem w_mth1 {f : Str → RV → M RV} : wpM (evMth1 f F Fa δ) W Q E = wpM (F δ) W (kB (mth1A f Fa δ) Q E) E := propext wpM_bind
@[simp] theorem w_mth1A {f : Str → RV → M RV} {s : Str} : wpM (mth1A f Fa δ (.d (.str s))) W Q E = wpM (Fa δ) W (kB (mth1B f s) Q E) E := by
  show wpM ((Fa δ).bind _) W Q E = _
  rw [w_bind]; rfl
theorem strsL_map : ∀ ys : List Str, strsL ((ys.map D.str).map RV.d) = some ys
  | [] => rfl
  | y :: ys => by
    show (strsL ((ys.map D.str).map RV.d)).map (y :: ·) = _
    rw [strsL_map]; rfl
def joinF (s : Str) (ys : List Str) : M RV := (M.guard ((ys.map (·.length)).sum + ys.length * s.length ≤ 16777216)).bind fun _ => M.ret (.d (.str (Txt.join s ys)))
@[simp] theorem w_joinF {s : Str} {ys : List Str} : wpM (joinF s ys) W Q E = ((ys.map (·.length)).sum + ys.length * s.length ≤ 16777216 ∧ Q (.d (.str (Txt.join s ys))) W) := by
  unfold joinF
  rw [w_bind, w_guard]; rfl
def joinK (o : Option (Bool × List RV)) : Option (List Str) := o.bind fun p => strsL p.2
@[simp] theorem joinK_some {t : Bool} {xs : List RV} : joinK (some (t, xs)) = strsL xs := (rfl)
@[simp] theorem w_mJoin {s : Str} {u : RV} : wpM (mJoin s u) W Q E = lookK (joinK (seqOf W u)) (kB (joinF s) Q E) W := by
  unfold mJoin
  rw [w_bind, w_look]; rfl
@[simp] theorem mCount_s {s b : Str} : mCount s (.d (.str b)) = M.ret (.d (.int (Txt.count s b))) := (rfl)
/-! list(), tuple() -/
@[simp] theorem w_bList_l {mk : Bool} {xs : List D} : wpM (bList mk [.d (.lst xs)]) W Q E = wpM (newL mk (xs.map RV.d)) W Q E := by
  unfold bList
  dsimp only
  rw [w_bind, w_look]; rfl
@[simp] theorem w_bList_t {mk : Bool} {xs : List D} : wpM (bList mk [.d (.tup xs)]) W Q E = wpM (newL mk (xs.map RV.d)) W Q E := by
  unfold bList
  dsimp only
  rw [w_bind, w_look]; rfl
@[simp] theorem w_bList_s {mk : Bool} {z : Str} : wpM (bList mk [.d (.str z)]) W Q E = (z.cps.size ≤ sizeLine ∧ wpM (newL mk ((charsOf z).map RV.d)) W Q E) := by
  show wpM ((M.guard _).bind _) W Q E = _
  rw [w_bind, w_guard]; rfl
def listF (mk : Bool) (p : Bool × List RV) : M RV := newL mk p.2
@[simp] theorem listF_ap {mk t : Bool} {xs : List RV} : listF mk (t, xs) = newL mk xs := (rfl)
@[simp] theorem w_bList_r {mk : Bool} {l : Nat} : wpM (bList mk [.r l]) W Q E = lookK (seqOf W (.r l)) (kB (listF mk) Q E) W := by
  show wpM ((M.look _).bind _) W Q E = _
  rw [w_bind, w_look]; rfl
theorem w_bTuple_l {xs : List D} : wpM (bTuple [.d (.lst xs)]) W Q E = Q (.d (.tup xs)) W := by
  unfold bTuple
  dsimp only
  rw [w_bind, w_look]
  show wpM (newT (xs.map RV.d)) W Q E = _
  rw [w_newT]
/-! + of lists -/
def catF (mk : Bool) (xs ys : List RV) : M RV := (M.guard (xs.length + ys.length ≤ sizeLine)).bind fun _ => newL mk (xs ++ ys)
@[simp] theorem w_catF {mk : Bool} {xs ys : List RV} : wpM (catF mk xs ys) W Q E = (xs.length + ys.length ≤ sizeLine ∧ wpM (newL mk (xs ++ ys)) W Q E) := by
  unfold catF
  rw [w_bind, w_guard]; rfl
def catK (mk : Bool) (ys : List RV) (o : Option (Bool × List RV)) (Q : RV → Wd → Prop) (E : DX → Wd → Prop) (W : Wd) : Prop := match o with
  | some (false, xs) => wpM (catF mk xs ys) W Q E
  | _ => False
@[simp] theorem catK_f {mk : Bool} {xs ys : List RV} : catK mk ys (some (false, xs)) Q E W = wpM (catF mk xs ys) W Q E := (rfl)
@[simp] theorem w_add_rl {mk : Bool} {l : Nat} {ys : List D} : wpM (opAdd mk (.r l) (.d (.lst ys))) W Q E = catK mk (ys.map RV.d) (seqOf W (.r l)) Q E W := by
  have e : opAdd mk (.r l) (.d (.lst ys)) = opCat mk (.r l) (.d (.lst ys)) := rfl
  rw [e]
  unfold opCat catK
  rw [w_bind, w_look]
  cases h : seqOf W (.r l) with
  | none => rfl
  | some p =>
    obtain ⟨t, xs⟩ := p
    cases t with
    | true => rfl
    | false => rfl
@[simp] theorem w_add_ll {mk : Bool} {xs ys : List D} : wpM (opAdd mk (.d (.lst xs)) (.d (.lst ys))) W Q E = wpM (catF mk (xs.map RV.d) (ys.map RV.d)) W Q E := by
  have e : opAdd mk (.d (.lst xs)) (.d (.lst ys)) = opCat mk (.d (.lst xs)) (.d (.lst ys)) := rfl
  rw [e]
  unfold opCat
  rw [w_bind, w_look]
  rfl
def sumK (o : Option (Bool × List RV)) : Option (List Int) := o.bind fun p => if p.1 then none else intsL p.2
@[simp] theorem sumK_some {xs : List RV} : sumK (some (false, xs)) = intsL xs := (rfl)
def sumF (ns : List Int) : M RV := M.ret (.d (.int ns.sum))
@[simp] theorem sumF_ap {ns : List Int} : sumF ns = M.ret (.d (.int ns.sum)) := (rfl)
@[simp] theorem w_bSum {u : RV} : wpM (bSum [u]) W Q E = lookK (sumK (seqOf W u)) (kB sumF Q E) W := by
  show wpM ((M.look _).bind _) W Q E = _
  rw [w_bind, w_look]; rfl
theorem intsL_map : ∀ ns : List Int, intsL ((ns.map D.int).map RV.d) = some ns
  | [] => rfl
  | y :: ys => by
    show (intsL ((ys.map D.int).map RV.d)).map (y :: ·) = _
    rw [intsL_map]; rfl
end
end DL
set_option Elab.async false
set_option linter.all false
set_option maxRecDepth 100000
set_option maxHeartbeats 4000000
/-! DZ: dict(zip(..)) over two iterators of any kind. -/
namespace DL
open PySem PySem.Spec PyProof.Rows L2 RZ
open PySem.W (KdxIt kdx_alive)
section
variable {prog : Program} {w : World} {A : Around} {E : Value → Shared → Prop} {s : Shared} {z TI TO i1 i2 T : Addr} {f : Bool} {oT : Obj} {fp1 fp2 : List Addr} {n1 n2 i : Nat} {P1 P2 : Nat → Value → Prop} {St1 St2 : Nat → Heap → Prop}
abbrev ZH (h : Heap) (z TI TO T : Addr) (f : Bool) : Prop := IsZipHeld h z TI TO T f
theorem dz_item {Q : Value → Shared → Prop} (S : ZipSep2 z TI TO i1 i2 fp1 fp2) (D1 : Draws prog w A i1 fp1 n1 P1 St1) (D2 : Draws prog w A i2 fp2 n2 P2 St2)
    (hz : ZH s.heap z TI TO T f) (hT : s.heap.get? T = some oT) (hTI : IsTupOf2 s.heap TI (.ref i1) (.ref i2)) (st1 : St1 i s.heap) (st2 : St2 i s.heap) (lt1 : i < n1) (lt2 : i < n2)
    (hQ : ∀ x1 x2 h' tk, P1 i x1 → P2 i x2 → ZH h' z TI TO T true → St1 (i + 1) h' → St2 (i + 1) h' → IsTupOf2 h' s.heap.objs.size x1 x2 →
      (∀ c o, c ≠ z → c ≠ i1 → c ≠ i2 → s.heap.get? c = some o → h'.get? c = some o) → Q (.ref s.heap.objs.size) { s with heap := h', toks := tk }) :
    wpAny (model prog w) A (Builtin.«zip.__next__» ⟨[.ref z], []⟩) (fun fin t => ∃ v, fin = .done (.ret v) ∧ Q v t) E s := by
  obtain ⟨hp, g, d, t0, os⟩ := s
  show wpAny _ A (field (.ref z) 2 >>= _) _ E ⟨hp, g, d, t0, os⟩
  refine wpAny_bind (wpAny_field (x := Value.bool false) hz rfl rfl ?_)
  show wpAny _ A (field (.ref z) 3 >>= _) _ E ⟨hp, g, d, t0, os⟩
  refine wpAny_bind (wpAny_field (x := Value.ref TI) hz rfl rfl (wpAny_bind (wpAny_seqItems hTI rfl ?_)))
  show wpAny _ A (Builtin.SmallTypes.ownedTupleIsFree (.ref z) >>= _) _ E ⟨hp, g, d, t0, os⟩
  refine wpAny_bind (wpAny_tupleHeld_zip hz hT fun a0 za sa => ?_)
  have ka : Heap.SameBut z hp a0 := sa
  simp only [Bool.false_eq_true, if_false, ← Array.forIn_toList, List.forIn_cons, List.forIn_nil]
  refine wpAny_bind (wpAny_bind (wpAny_bind (wpAny_holding ?_)))
  show wpAny _ A (Builtin.SmallTypes.nextOf (.ref i1) >>= _) _ E ⟨a0, g, d, t0, os⟩
  refine wpAny_bind (D1.item i _ _ _ lt1 (D1.over st1 ka S.zf1) fun x1 b0 t1 px1 sb1 kb => wpAny_pure (wpAny_pure ?_))
  have kb' : Heap.SameBut i1 a0 b0 := kb
  refine wpAny_bind (wpAny_bind (wpAny_holding ?_))
  show wpAny _ A (Builtin.SmallTypes.nextOf (.ref i2) >>= _) _ E ⟨b0, g, d, t1, os⟩
  refine wpAny_bind (D2.item i _ _ _ lt2 (D2.over (D2.over st2 ka S.zf2) kb' S.sep1_2) fun x2 c0 t2 px2 sc2 kc => wpAny_pure (wpAny_pure (wpAny_pure ?_)))
  have kc' : Heap.SameBut i2 b0 c0 := kc
  show wpAny _ A (newTuple [x1, x2] >>= fun v => ret v) _ E ⟨c0, g, d, t2, os⟩
  have hsz : c0.objs.size = hp.objs.size := by rw [kc'.1, kb'.1, ka.1]
  have up : ∀ c o, c ≠ z → c ≠ i1 → c ≠ i2 → hp.get? c = some o → c0.get? c = some o := fun c o m1 m2 m3 e => kc'.extBut _ _ m3 (kb'.extBut _ _ m2 (ka.extBut _ _ m1 e))
  have zc : ZH c0 z TI TO T true := kc'.extBut _ _ S.zi2 (kb'.extBut _ _ S.zi1 za)
  refine wpAny_bind (wpAny_newTuple (wpAny_pure ⟨_, rfl, ?_⟩))
  have q := hQ x1 x2 (c0.push { cls := .type "tuple", data := .seq #[x1, x2] }) t2 px1 px2 (Heap.get?_push_of_some _ zc)
    (D1.frame _ _ _ (D1.over sb1 kc' S.sep2_1) fun b _ o e => Heap.get?_push_of_some _ e) (D2.frame _ _ _ sc2 fun b _ o e => Heap.get?_push_of_some _ e)
    (by rw [← hsz]; exact Heap.get?_push_size _ rfl) fun c o m1 m2 m3 e => Heap.get?_push_of_some _ (up c o m1 m2 m3 e)
  show Q (.ref c0.objs.size) _
  rw [hsz]
  exact q
theorem dz_end {Q : Fin → Shared → Prop} (S : ZipSep2 z TI TO i1 i2 fp1 fp2) (D1 : Draws prog w A i1 fp1 n1 P1 St1) (D2 : Draws prog w A i2 fp2 n2 P2 St2)
    (hz : ZH s.heap z TI TO T f) (hT : s.heap.get? T = some oT) (hTI : IsTupOf2 s.heap TI (.ref i1) (.ref i2)) (st1 : St1 i s.heap) (st2 : St2 i s.heap) (le1 : i ≤ n1) (le2 : i ≤ n2) (hend : i = n1 ∨ i = n2)
    (hE : ∀ h' tk e, (∀ c o, c ≠ z → c ≠ i1 → c ≠ i2 → s.heap.get? c = some o → h'.get? c = some o) → (∃ o, h'.get? e = some o ∧ o.cls = .type "StopIteration") → E (.ref e) { s with heap := h', toks := tk }) :
    wpAny (model prog w) A (Builtin.«zip.__next__» ⟨[.ref z], []⟩) Q E s := by
  obtain ⟨hp, g, d, t0, os⟩ := s
  show wpAny _ A (field (.ref z) 2 >>= _) _ E ⟨hp, g, d, t0, os⟩
  refine wpAny_bind (wpAny_field (x := Value.bool false) hz rfl rfl ?_)
  show wpAny _ A (field (.ref z) 3 >>= _) _ E ⟨hp, g, d, t0, os⟩
  refine wpAny_bind (wpAny_field (x := Value.ref TI) hz rfl rfl (wpAny_bind (wpAny_seqItems hTI rfl ?_)))
  show wpAny _ A (Builtin.SmallTypes.ownedTupleIsFree (.ref z) >>= _) _ E ⟨hp, g, d, t0, os⟩
  refine wpAny_bind (wpAny_tupleHeld_zip hz hT fun a0 za sa => ?_)
  have ka : Heap.SameBut z hp a0 := sa
  simp only [Bool.false_eq_true, if_false, ← Array.forIn_toList, List.forIn_cons, List.forIn_nil]
  refine wpAny_bind (wpAny_bind (wpAny_bind (wpAny_holding ?_)))
  show wpAny _ A (Builtin.SmallTypes.nextOf (.ref i1) >>= _) _ E ⟨a0, g, d, t0, os⟩
  by_cases lt1 : i < n1
  · refine wpAny_bind (D1.item i _ _ _ lt1 (D1.over st1 ka S.zf1) fun x1 b0 t1 px1 sb1 kb => wpAny_pure (wpAny_pure ?_))
    have kb' : Heap.SameBut i1 a0 b0 := kb
    have hi : i = n2 := by omega
    refine wpAny_bind (wpAny_bind (wpAny_holding ?_))
    show wpAny _ A (Builtin.SmallTypes.nextOf (.ref i2) >>= _) _ E ⟨b0, g, d, t1, os⟩
    refine wpAny_bind (D2.done ⟨b0, g, d, t1, os⟩ _ _ (by rw [← hi]; exact D2.over (D2.over st2 ka S.zf2) kb' S.sep1_2) fun c0 e kc he => ?_)
    exact hE c0 t1 e (fun c o m1 m2 m3 x => kc c o m3 (kb'.extBut _ _ m2 (ka.extBut _ _ m1 x))) he
  · have hi : i = n1 := by omega
    refine wpAny_bind (D1.done ⟨a0, g, d, t0, os⟩ _ _ (by rw [← hi]; exact D1.over st1 ka S.zf1) fun c0 e kc he => ?_)
    exact hE c0 t0 e (fun c o m1 m2 m3 x => kc c o m2 (ka.extBut _ _ m1 x)) he
theorem dz_next {Q : Option Value → Shared → Prop} (S : ZipSep2 z TI TO i1 i2 fp1 fp2) (D1 : Draws prog w A.in1 i1 fp1 n1 P1 St1) (D2 : Draws prog w A.in1 i2 fp2 n2 P2 St2)
    (hz : ZH s.heap z TI TO T f) (hT : s.heap.get? T = some oT) (hTI : IsTupOf2 s.heap TI (.ref i1) (.ref i2)) (st1 : St1 i s.heap) (st2 : St2 i s.heap) (lt1 : i < n1) (lt2 : i < n2)
    (hQ : ∀ x1 x2 h' tk, P1 i x1 → P2 i x2 → ZH h' z TI TO T true → St1 (i + 1) h' → St2 (i + 1) h' → IsTupOf2 h' s.heap.objs.size x1 x2 →
      (∀ c o, c ≠ z → c ≠ i1 → c ≠ i2 → s.heap.get? c = some o → h'.get? c = some o) → Q (some (.ref s.heap.objs.size)) { s with heap := h', toks := tk }) :
    wpAny (model prog w) A (pyNext (.ref z)) Q E s := by
  have ty : s.TypeIs (.ref z) "zip" := ⟨_, hz, rfl⟩
  unfold pyNext
  refine wpAny_bind (wpAny_attempt (wpAny_callSpecial?_slot (name := PySem.Str.ofString "__next__") ty PySem.F.slot_zip_next ?_))
  refine wpAny_call_entry PySem.F.slot_zip_next ty PySem.F.entry_zip_next ?_ (PySem.F.args_zip_next_1 _)
  exact dz_item S D1 D2 hz hT hTI st1 st2 lt1 lt2 fun x1 x2 h' tk p1 p2 b1 b2 b3 b4 b5 => wpAny_pure (hQ x1 x2 h' tk p1 p2 b1 b2 b3 b4 b5)
theorem dz_done {Q : Option Value → Shared → Prop} (S : ZipSep2 z TI TO i1 i2 fp1 fp2) (D1 : Draws prog w A.in1 i1 fp1 n1 P1 St1) (D2 : Draws prog w A.in1 i2 fp2 n2 P2 St2)
    (hz : ZH s.heap z TI TO T f) (hT : s.heap.get? T = some oT) (hTI : IsTupOf2 s.heap TI (.ref i1) (.ref i2)) (st1 : St1 i s.heap) (st2 : St2 i s.heap) (le1 : i ≤ n1) (le2 : i ≤ n2) (hend : i = n1 ∨ i = n2)
    (hQ : ∀ h' tk, (∀ c o, c ≠ z → c ≠ i1 → c ≠ i2 → s.heap.get? c = some o → h'.get? c = some o) → Q none { s with heap := h', toks := tk }) : wpAny (model prog w) A (pyNext (.ref z)) Q E s := by
  have ty : s.TypeIs (.ref z) "zip" := ⟨_, hz, rfl⟩
  unfold pyNext
  refine wpAny_bind (wpAny_attempt (wpAny_callSpecial?_slot (name := PySem.Str.ofString "__next__") ty PySem.F.slot_zip_next ?_))
  refine wpAny_call_entry PySem.F.slot_zip_next ty PySem.F.entry_zip_next (dz_end S D1 D2 hz hT hTI st1 st2 le1 le2 hend fun h' tk e hk he => ?_) (PySem.F.args_zip_next_1 _)
  obtain ⟨o, ho, hc⟩ := he
  exact wpAny_bind (wpAny_isInstance (T := "StopIteration") (b := true) ⟨o, ho, hc⟩ isSubtype_stop (wpAny_pure (hQ _ _ hk)))
end
/-- what stands of a zip of a text and a list -/
structure TL (z TI TO i1 i2 l : Addr) (x : PySem.Str) (t : Tok) (its : Array Value) (h : Heap) : Prop where
  zip : IsZip h z TI TO .none
  ti : IsTupOf2 h TI (.ref i1) (.ref i2)
  to : ∃ a b, IsTupOf2 h TO a b
  s1 : h.IsStrIter i1 (strIterType x) x t 0
  s2 : h.IsListIter i2 l 0
  ls : h.IsList l its
theorem pairs_tl {prog : Program} {w : World} {z TI TO i1 i2 l : Addr} (S : ZipSep2 z TI TO i1 i2 [i1] [i2, l]) (hne : l ≠ i2) (hTl : TI ≠ l) (x : PySem.Str) (t : Tok) (its : Array Value) :
    PairArg prog w "zip" z [z, TI, TO, i1, i2, l] [z, TO, i1, i2] (min x.cps.size its.size) (fun i k v => (∃ c u, x.cps[i]? = some c ∧ k = .str ⟨#[c]⟩ u) ∧ its[i]? = some v) (TL z TI TO i1 i2 l x t its) where
  type := fun s ok => ⟨_, ok.zip, rfl⟩
  notDict := by decide
  keep := fun h h' ok hk => by
    obtain ⟨a, b, e⟩ := ok.to
    obtain ⟨o1, e1, r1⟩ := ok.s1
    exact ⟨hk _ _ ok.zip, hk _ _ ok.ti, ⟨a, b, hk _ _ e⟩, ⟨o1, hk _ _ e1, r1⟩, ok.s2.at fun o e => hk _ o e, ok.ls.at fun o e => hk _ o e⟩
  there := fun h ok b hb => by
    obtain ⟨a, c, e⟩ := ok.to
    obtain ⟨o1, e1, _⟩ := ok.s1
    obtain ⟨o2, e2, _⟩ := ok.s2
    obtain ⟨o3, e3, _⟩ := ok.ls
    simp only [List.mem_cons, List.not_mem_nil, or_false] at hb
    rcases hb with rfl | rfl | rfl | rfl | rfl | rfl
    · exact ⟨_, ok.zip⟩
    · exact ⟨_, ok.ti⟩
    · exact ⟨_, e⟩
    · exact ⟨_, e1⟩
    · exact ⟨_, e2⟩
    · exact ⟨_, e3⟩
  sub := fun b hb => by
    simp only [List.mem_cons, List.not_mem_nil, or_false] at hb ⊢
    rcases hb with h | h | h | h <;> simp [h]
  noKeys := fun A s Q E hA ok h => getAttrOr_miss_zip ok.zip rfl rfl rfl zip_no_keys (by decide +kernel) hA h
  iter := fun A s d Q E hA ok hd hdf hc => by
    obtain ⟨a, b, eTO⟩ := ok.to
    simp only [List.mem_cons, List.not_mem_nil, or_false, not_or] at hdf
    obtain ⟨dz, dTI, dTO, d1, d2, dl⟩ := hdf
    have D1 : ∀ A' : Around, A'.handled = none → Draws prog w A' i1 [i1] x.cps.size (fun i v => ∃ c u, x.cps[i]? = some c ∧ v = .str ⟨#[c]⟩ u) (fun i h => h.IsStrIter i1 (strIterType x) x t i) := fun A' h => Draws.text h i1 x t
    have D2 : ∀ A' : Around, A'.handled = none → Draws prog w A' i2 [i2, l] its.size (fun i v => its[i]? = some v) (fun i h => h.IsListIter i2 l i ∧ h.IsList l its) := fun A' h => Draws.list h i2 l hne its
    refine wpAny_pyIter_zip ok.zip (hc z [z, TO, i1, i2] (fun i h => IsTupOf2 h TI (.ref i1) (.ref i2) ∧ h.IsStrIter i1 (strIterType x) x t i ∧ (h.IsListIter i2 l i ∧ h.IsList l its) ∧
      ((IsZip h z TI TO .none ∧ ∃ a b, IsTupOf2 h TO a b) ∨ ∃ T f oT, ZH h z TI TO T f ∧ h.get? T = some oT ∧ T ≠ z ∧ T ≠ i1 ∧ T ≠ i2 ∧ T ≠ d)) s.heap s.toks ?_
      ⟨ok.ti, ok.s1, ⟨ok.s2, ok.ls⟩, .inl ⟨ok.zip, a, b, eTO⟩⟩ (fun _ _ e => e) fun b hb => .inl hb)
    exact {
      off := fun hm => by
        simp only [List.mem_cons, List.not_mem_nil, or_false] at hm
        rcases hm with e | e | e | e
        · exact dz e
        · exact dTO e
        · exact d1 e
        · exact d2 e
      frame := fun i h₁ h₂ st hk => by
        obtain ⟨q1, q2, ⟨q3, q4⟩, q5⟩ := st
        obtain ⟨o1, e1, r1⟩ := q2
        refine ⟨hk _ _ (Ne.symm dTI) q1, ⟨o1, hk _ _ (Ne.symm d1) e1, r1⟩, ⟨q3.at fun o e => hk _ o (Ne.symm d2) e, q4.at fun o e => hk _ o (Ne.symm dl) e⟩, ?_⟩
        rcases q5 with ⟨hz, a, b, e⟩ | ⟨T, f, oT, hz, hT, m1, m2, m3, m4⟩
        · exact .inl ⟨hk _ _ (Ne.symm dz) hz, a, b, hk _ _ (Ne.symm dTO) e⟩
        · exact .inr ⟨T, f, oT, hk _ _ (Ne.symm dz) hz, hk _ _ m4 hT, m1, m2, m3, m4⟩
      item := fun i s₁ Q₁ E₁ hi st hds hQ => by
        obtain ⟨q1, q2, q34, q5⟩ := st
        have l1 : i < x.cps.size := Nat.lt_of_lt_of_le hi (Nat.min_le_left ..)
        have l2 : i < its.size := Nat.lt_of_lt_of_le hi (Nat.min_le_right ..)
        have away : ∀ {c o}, s₁.heap.get? c = some o → s₁.heap.objs.size ≠ c := fun e => Nat.ne_of_gt (Heap.lt_size e)
        have w1 : s₁.heap.objs.size ≠ i1 := let ⟨_, e, _⟩ := q2; away e
        have w2 : s₁.heap.objs.size ≠ i2 := let ⟨_, e, _⟩ := q34.1; away e
        rcases q5 with ⟨hz, a, b, e⟩ | ⟨T, f, oT, hz, hT, m1, m2, m3, m4⟩
        · refine wpAny_pyNext_zipD2_item S (D1 _ hA) (D2 _ hA) hz q1 e q2 q34 l1 l2 fun x1 x2 h' tk p1 p2 b1 b2 c1 c2 b3 b4 b5 => ?_
          exact hQ s₁.heap.objs.size _ _ h' tk ⟨p1, p2⟩ (.inl ⟨_, b3, rfl, _, rfl⟩) ⟨b5 _ _ S.TIz S.TITO S.TIi1 S.TIi2 q1, c1, c2, .inr ⟨s₁.heap.objs.size, false, _, b1, b3, away hz, w1, w2, Nat.ne_of_gt hds⟩⟩
            fun c o hc e => b5 c o (fun q => hc (by simp [q])) (fun q => hc (by simp [q])) (fun q => hc (by simp [q])) (fun q => hc (by simp [q])) e
        · refine dz_next S (D1 _ hA) (D2 _ hA) hz hT q1 q2 q34 l1 l2 fun x1 x2 h' tk p1 p2 b1 c1 c2 b3 b5 => ?_
          exact hQ s₁.heap.objs.size _ _ h' tk ⟨p1, p2⟩ (.inl ⟨_, b3, rfl, _, rfl⟩) ⟨b5 _ _ S.TIz S.TIi1 S.TIi2 q1, c1, c2, .inr ⟨T, true, oT, b1, b5 _ _ m1 m2 m3 hT, m1, m2, m3, m4⟩⟩
            fun c o hc e => b5 c o (fun q => hc (by simp [q])) (fun q => hc (by simp [q])) (fun q => hc (by simp [q])) e
      done := fun s₁ Q₁ E₁ st hQ => by
        obtain ⟨q1, q2, q34, q5⟩ := st
        have hend : min x.cps.size its.size = x.cps.size ∨ min x.cps.size its.size = its.size := by omega
        rcases q5 with ⟨hz, a, b, e⟩ | ⟨T, f, oT, hz, hT, m1, m2, m3, m4⟩
        · exact wpAny_pyNext_zipD2_end S (D1 _ hA) (D2 _ hA) hz q1 e q2 q34 (Nat.min_le_left ..) (Nat.min_le_right ..) hend fun h' tk hk => hQ h' tk fun c o hc e => hk c o (fun q => hc (by simp [q])) (fun q => hc (by simp [q])) (fun q => hc (by simp [q])) (fun q => hc (by simp [q])) e
        · exact dz_done S (D1 _ hA) (D2 _ hA) hz hT q1 q2 q34 (Nat.min_le_left ..) (Nat.min_le_right ..) hend fun h' tk hk => hQ h' tk fun c o hc e => hk c o (fun q => hc (by simp [q])) (fun q => hc (by simp [q])) (fun q => hc (by simp [q])) e }
end DL
set_option Elab.async false
set_option linter.all false
set_option maxRecDepth 100000
set_option maxHeartbeats 4000000
/-! DL17: dict(zip(a text, a list)). -/
namespace DL
open PySem PySem.Spec PyProof.Rows L2 RZ
def dictZip (u v : RV) : M RV := match u, v with
  | .d (.str z), .d (.lst xs) => (M.guard (z.cps.toList.Nodup ∧ z.cps.size ≤ 1000 ∧ xs.length ≤ 1000)).bind fun _ => M.ret (.d (.dK ((z.cps.toList.zip xs).map fun p => ((Sum.inr (⟨#[p.1]⟩ : Str) : Key), p.2))))
  | _, _ => M.fail
def evDictZip (Fa Fb : Env → M RV) : Env → M RV := ev2 dictZip Fa Fb
@[simp] theorem w_dictZip {Fa Fb : Env → M RV} {δ : Env} {W : Wd} {Q : RV → Wd → Prop} {E : DX → Wd → Prop} : wpM (evDictZip Fa Fb δ) W Q E = wpM (ev2 dictZip Fa Fb δ) W Q E := (rfl)
@[simp] theorem w_dictZipB {z : Str} {xs : List D} {W : Wd} {Q : RV → Wd → Prop} {E : DX → Wd → Prop} : wpM (dictZip (.d (.str z)) (.d (.lst xs))) W Q E = ((z.cps.toList.Nodup ∧ z.cps.size ≤ 1000 ∧ xs.length ≤ 1000) ∧ Q (.d (.dK ((z.cps.toList.zip xs).map fun p => ((Sum.inr (⟨#[p.1]⟩ : Str) : Key), p.2)))) W) := by
  show wpM ((M.guard _).bind _) W Q E = _
  rw [w_bind, w_guard]; rfl
/-- the pairs of a text and a list -/
abbrev zkv {α : Type} (z : Str) (xs : List α) : List (Key × α) := (z.cps.toList.zip xs).map fun p => ((Sum.inr (⟨#[p.1]⟩ : Str) : Key), p.2)
def tDZ (K : PySem.W.Frag) (ta : TA) : TE := fun σ H Q => ta σ H fun vs H1 => ∃ (z : Str) (l : Addr) (xs : List V), vs = [.str z, .ref l] ∧ SqL K H1 l xs ∧ z.cps.size ≤ 1000 ∧ ∀ p, H1 p = none → Q (.ref p) (upd H1 p (.dK (mergeK [] (zkv z xs))))
theorem kv_zip {α : List Nat} : ∀ {l : List Nat} {xs : List V} {us : List Value}, Vals xs us → KV ((l.zip xs).map fun p => ((Sum.inr (⟨#[p.1]⟩ : Str) : Key), p.2)) ((l.zip us).map fun p => ((Sum.inr (⟨#[p.1]⟩ : Str) : Key), p.2))
  | [], _, _, _ => by simp; exact .nil
  | _ :: _, _, _, .nil => by simp; exact .nil
  | _ :: _, _, _, .cons r t => .cons ⟨rfl, r⟩ (kv_zip (α := α) t)
theorem nm1 {a b : Nat} (h : a ≠ b) : (show Addr from a) ∉ ([b] : List Addr) := fun m => h (List.mem_singleton.mp m)
theorem nm2 {a b c : Nat} (h : a ≠ b) (h2 : a ≠ c) : (show Addr from a) ∉ ([b, c] : List Addr) := fun m => by
  rcases List.mem_cons.mp m with e | e
  · exact h e
  · exact h2 (List.mem_singleton.mp e)
theorem ne_n {a b : Nat} (h : a ≠ b) : (show Addr from a) ≠ (show Addr from b) := h
theorem nlt1 {n l : Nat} (h : l < n) : (show Addr from l) ≠ (show Addr from (n + 1)) := ne_n (by omega)
theorem nlt2 {n l : Nat} (h : l < n) : (show Addr from (n + 2)) ≠ (show Addr from l) := ne_n (by omega)
theorem sep5 (n l : Nat) (h : l < n) : ZipSep2 (n + 4) (n + 2) (n + 3) n (n + 1) [n] [n + 1, l] :=
  ⟨ne_n (by omega), ne_n (by omega), ne_n (by omega), ne_n (by omega), List.mem_singleton_self n, nm1 (by omega), nm1 (by omega), ne_n (by omega), List.mem_cons_self, nm2 (by omega) (by omega), nm2 (by omega) (by omega), nm2 (by omega) (by omega), nm1 (by omega)⟩
theorem pe_dictZip {X : Cx} {a b : Expr} {ta : TA} {p1 p2 pos pos2 : Pos} (hcalm : X.calm = true) (hg : Gl X "dict") (hm : X.mg "dict" = none) (hgz : Gl X "zip") (hmz : X.mg "zip" = none) (ha : PA X [a, b] ta)
    (hs0 : starEach [.Call (.Name "zip" p2) [a, b] [] pos2] X.env = [(false, eval (.Call (.Name "zip" p2) [a, b] [] pos2) X.env)] := by rfl) (hpl0 : (backTo pos (starEach [] X.env)).any (·.1) = false := by rfl)
    (hs : starEach [a, b] X.env = (false, eval a X.env) :: starEach [b] X.env := by rfl) (hpl : (backTo pos2 (starEach [b] X.env)).any (·.1) = false := by rfl) :
    PE X (.Call (.Name "dict" p1) [.Call (.Name "zip" p2) [a, b] [] pos2] [] pos) (tDZ X.K ta) := by
  refine ⟨fun pins s σ H Q I h => ?_⟩
  refine Call_ (ld_blt I hg hm PyProof.Rows.boot_dict (PyProof.Rows.callWith_type1 ?_ hs0 hpl0))
  rw [hs0]
  show wpAny _ _ (spliced [(false, eval (.Call (.Name "zip" p2) [a, b] [] pos2) X.env)]) _ _ _
  refine Calls.spliced_cons ?_
  refine Call_ (ld_blt I hgz hmz PyProof.Rows.boot_zip (PyProof.Rows.callWith_type1 (thn (ha.run pos2 pins s σ H _ I h) fun us s1 ⟨vs, H1, I1, r1, q1⟩ => ?_) hs hpl))
  obtain ⟨z, l, xs, ex, hq, hz1, q⟩ := q1
  subst ex
  cases r1 with
  | cons r rr =>
    cases rr with
    | cons r' rr =>
      cases rr
      obtain ⟨t, rfl⟩ := r
      cases r'
      obtain ⟨its, rv, pl, hlen⟩ := I1.list hq
      have hlt := pl.lt
      refine zip_begins2 (begins_text z t) (begins_list l its.toArray) trivial pl.isList fun h' hz hTI hTO g1 g2 hsz hk => ?_
      refine Calls.spliced_nil ?_
      have S5 := sep5 s1.heap.objs.size l hlt
      have ok : TL (s1.heap.objs.size + 4) (s1.heap.objs.size + 2) (s1.heap.objs.size + 3) s1.heap.objs.size (s1.heap.objs.size + 1) l z t its.toArray h' :=
        ⟨hz, hTI, ⟨_, _, hTO⟩, ⟨_, g1, rfl, rfl⟩, ⟨_, g2, rfl, rfl⟩, pl.isList.at fun o e => hk _ o e⟩
      have nl := nlt1 hlt
      have nt := nlt2 hlt
      have hits : its.length = xs.length := rv.length.symm
      refine PySem.call_dict_pairs (knd := mixKind X.prog X.w) (kvs := zkv z its) (pairs_tl S5 nl nt z t its.toArray) (I1.ok.hd hcalm) ok ⟨?_, ?_⟩ ?_ fun h2 tk hd2 hk2 => ?_
      · simp [zkv]
      · rintro i key v ⟨⟨c, u, h1, rfl⟩, h2⟩
        refine ⟨Sum.inr ⟨#[c]⟩, ?_, keyIs_str _ u⟩
        have h3 : its[i]? = some v := by simpa using h2
        have h4 : z.cps.toList[i]? = some c := by simpa using h1
        unfold zkv
        rw [List.getElem?_map, (List.getElem?_zip_eq_some (z := (c, v))).mpr ⟨h4, h3⟩]
        rfl
      · have : sizeLine > 1000 := by decide
        have e : min z.cps.size its.toArray.size ≤ z.cps.size := Nat.min_le_left ..
        omega
      · have le : s1.heap.objs.size ≤ h'.objs.size := by rw [hsz]; exact Nat.le_add_right _ _
        have hm2 : (h'.objs.size == sysModules) = false := beq_eq_false_iff_ne.mpr (Nat.ne_of_gt (Nat.lt_of_lt_of_le I1.big le))
        have hlen2 : (mergeK [] (zkv z xs)).length ≤ sizeLine := by
          refine Nat.le_trans (length_mergeK (zkv z xs) []) ?_
          have h1 : sizeLine > 1000 := by decide
          have h2 : (zkv z xs).length ≤ z.cps.size := by simp [zkv]; exact Nat.min_le_left ..
          rw [List.length_nil]
          omega
        have k : ∀ b o, s1.heap.get? b = some o → h2.get? b = some o := fun b o e => hk2 b o (fun hm => by
          have lt := Heap.lt_size e
          simp only [List.mem_cons, List.not_mem_nil, or_false] at hm
          have lt' : b < s1.heap.objs.size := lt
          rcases hm with q | q | q | q <;> rw [q] at lt' <;> exact absurd lt' (Nat.not_lt.mpr (by first | exact Nat.le_add_right _ _ | exact Nat.le_refl _))) (hk b o e)
        exact ⟨.ref h'.objs.size, upd H1 h'.objs.size (.dK (mergeK [] (zkv z xs))), I1.laid (t' := tk) k le (show ObjOk X.prog X.w _ _ _ (.dK (mergeK [] (zkv z xs))) from ⟨hlen2, hm2, merged [] (zkv z its), KV.merge (kv_zip (α := []) rv) .nil, hd2⟩), rfl, q _ (I1.hok.fresh le)⟩
section
variable {ι : Type} {𝒳 : ι → Cx} {G : Gh} {a b : Expr} {Fa Fb : Env → M RV} {pos p1 p2 pos2 : Pos}
theorem rep_zip {c : Cf} : ∀ {l : List Nat} {xs : List D} {vs : List V}, RepL c xs vs → RepK c ((l.zip xs).map fun p => ((Sum.inr (⟨#[p.1]⟩ : Str) : Key), p.2)) ((l.zip vs).map fun p => ((Sum.inr (⟨#[p.1]⟩ : Str) : Key), p.2))
  | [], _, _, _ => rfl
  | _ :: _, [], _, r => by cases r; rfl
  | ch :: l, x :: xs, _, r => by
    obtain ⟨v, vs, rfl, h1, h2⟩ := r
    exact ⟨v, _, rfl, h1, rep_zip h2⟩
theorem merge_aux : ∀ (l : List Nat) (vs : List V) (acc : List (Key × V)), l.Nodup → (∀ q, q ∈ acc → ∀ c, c ∈ l → q.1 ≠ (Sum.inr (⟨#[c]⟩ : Str) : Key)) →
    mergeK acc ((l.zip vs).map fun p => ((Sum.inr (⟨#[p.1]⟩ : Str) : Key), p.2)) = acc ++ (l.zip vs).map fun p => ((Sum.inr (⟨#[p.1]⟩ : Str) : Key), p.2)
  | [], _, acc, _, _ => by simp [mergeK]
  | _ :: _, [], acc, _, _ => by simp [mergeK]
  | c :: l, v :: vs, acc, hn, ha => by
    have hn' := List.nodup_cons.mp hn
    have hp : putK acc (Sum.inr (⟨#[c]⟩ : Str) : Key) v = acc ++ [((Sum.inr (⟨#[c]⟩ : Str) : Key), v)] := by
      unfold putK
      rw [if_neg]
      intro h
      obtain ⟨q, hq, e⟩ := List.any_eq_true.mp h
      exact ha q hq c List.mem_cons_self (of_decide_eq_true e)
    have ih := merge_aux l vs (acc ++ [((Sum.inr (⟨#[c]⟩ : Str) : Key), v)]) hn'.2 fun q hq c' hc' => by
      rcases List.mem_append.mp hq with h | h
      · exact ha q h c' (List.mem_cons_of_mem _ hc')
      · rw [List.mem_singleton.mp h]
        intro e
        have e1 := Sum.inr.inj e
        injection e1 with e2
        injection e2 with e3
        injection e3 with e4
        exact hn'.1 (e4 ▸ hc')
    show mergeK (putK acc _ v) _ = _
    rw [hp]
    refine ih.trans ?_
    simp
theorem merge_zip {l : List Nat} {vs : List V} (h : l.Nodup) : mergeK [] ((l.zip vs).map fun p => ((Sum.inr (⟨#[p.1]⟩ : Str) : Key), p.2)) = (l.zip vs).map fun p => ((Sum.inr (⟨#[p.1]⟩ : Str) : Key), p.2) := by
  rw [merge_aux l vs [] h (fun _ hq => nomatch hq)]
  rfl
theorem de_dictZip (hc : ∀ i, (𝒳 i).calm = true) (hK : ∀ i, (𝒳 i).K = G.K) (hm : ∀ i, (𝒳 i).mg "dict" = none) (hz : ∀ i, (𝒳 i).mg "zip" = none) (ha : DE 𝒳 G a Fa) (hb : DE 𝒳 G b Fb) (hg : ∀ i, Gl (𝒳 i) "dict" := by intro _; rfl) (hgz : ∀ i, Gl (𝒳 i) "zip" := by intro _; rfl)
    (hs0 : ∀ i, starEach [.Call (.Name "zip" p2) [a, b] [] pos2] (𝒳 i).env = [(false, eval (.Call (.Name "zip" p2) [a, b] [] pos2) (𝒳 i).env)] := by intro _; rfl) (hpl0 : ∀ i, (backTo pos (starEach [] (𝒳 i).env)).any (·.1) = false := by intro _; rfl)
    (hs : ∀ i, starEach [a, b] (𝒳 i).env = (false, eval a (𝒳 i).env) :: starEach [b] (𝒳 i).env := by intro _; rfl) (hs1 : ∀ i, starEach [b] (𝒳 i).env = (false, eval b (𝒳 i).env) :: starEach [] (𝒳 i).env := by intro _; rfl) (hpl : ∀ i, (backTo pos2 (starEach [b] (𝒳 i).env)).any (·.1) = false := by intro _; rfl) :
    DE 𝒳 G (.Call (.Name "dict" p1) [.Call (.Name "zip" p2) [a, b] [] pos2] [] pos) (evDictZip Fa Fb) := by
  obtain ⟨ta, pa, ra⟩ := ha
  obtain ⟨tb, pb, rb⟩ := hb
  refine ⟨tDZ G.K (tCons ta (tCons tb tNil)), fun i => ?_, fun c σ δ Q s w h => ?_⟩
  · have := pe_dictZip (p1 := p1) (pos := pos) (hc i) (hg i) (hm i) (hgz i) (hz i) (pa_cons (pa i) (pa_cons (pb i) pa_nil (hs1 i)) (hs i)) (hs0 i) (hpl0 i) (hs i) (hpl i)
    rw [hK i] at this
    exact this
  refine ra c σ δ _ s w (wpM_mono (wpM_bind.mp h) (fun u W1 h1 x1 c1 hw e1 w1 r1 => ?_) fun _ _ q => q)
  subst hw
  refine rb c1 σ δ _ (s.mono e1) w1 (wpM_mono (wpM_bind.mp h1) (fun v W2 h2 x2 c2 hw e2 w2 r2 => ?_) fun _ _ q => q.mono e1)
  subst hw
  have r1' := r1.mono e2
  cases u with
  | r _ => exact h2.elim
  | d x =>
    cases x <;> try exact h2.elim
    case str z =>
      cases v with
      | r _ => exact h2.elim
      | d y =>
        cases y <;> try exact h2.elim
        case lst xs =>
          obtain ⟨⟨g1, g2, g3⟩, q⟩ := wpM_guard (wpM_bind.mp h2)
          obtain ⟨l, vs, rfl, h3, n3, r3⟩ := r2
          cases r1'
          refine ⟨z, l, vs, rfl, SqL.of h3, g2, fun p hp => ?_⟩
          have em := merge_zip (vs := vs) g1
          show Q (.ref p) (upd c2.H p (.dK (mergeK [] (zkv z vs))))
          rw [show mergeK [] (zkv z vs) = zkv z vs from em]
          obtain ⟨e, w3⟩ := w2.lay (o := .dK (zkv z vs)) hp
          refine q (.ref p) (c2.lay p (.dK (zkv z vs))) rfl ((e1.trans e2).trans e) w3 ?_
          exact ⟨p, zkv z vs, rfl, .inl upd_same, w2.layAv hp, rep_zip (RepL.mono e _ _ r3)⟩
end
end DL
set_option Elab.async false
set_option linter.all false
set_option maxRecDepth 100000
/-! printed by gen.py: readings of the defs that all laws share -/
namespace SH
open PySem PySem.Spec PyProof.Rows L2 RZ DL
noncomputable section
def p__law_below_t1 (δ : DL.Env) : M Bool :=
  (evAndT (evB (ev2 (opEq false) (ev2 opIx (evVar 0) (cI 1)) (cI 0))) (evB (ev2 (opEq true) (ev2 opIx (evVar 0) (cI 0)) (evLst false evNil)))) δ
def p__law_below_b2 (δ : DL.Env) : M (Fl × DL.Env) :=
  (evSeq (evAsg (evMth mPop (ev2 opIx (evVar 0) (cI 0)) (evCons (cI 0) evNil)) (gtName 2))
    (evSeq (evAsg (ev2 opMod (evCall bInt (evCons (ev2 (opAdd false) (ev2 (opAdd false) (ev2 (opMul false) (ev2 opIx (evVar 0) (cI 3)) (cI 69031)) (evVar 2)) (cI 13)) evNil)) (cI 2147483647)) (gtSub (evVar 0) (cI 3)))
    (evAsg (evIf (evB (ev2 opGe (evVar 2) (ev2 opPow (cI 10) (cI 18)))) (evVar 2) (cI 0)) (gtSub (evVar 0) (cI 1))))) δ
def m__law_below (δ : DL.Env) : M (Fl × DL.Env) :=
  (evSeq (evAsg (ev2 (opAdd false) (ev2 opIx (evVar 0) (cI 2)) (cI 1)) (gtSub (evVar 0) (cI 2)))
    (evSeq (evWhile p__law_below_t1 p__law_below_b2 100)
    (evSeq (evIfS (evB (ev2 opGt (ev2 opIx (evVar 0) (cI 1)) (cI 0))) (evSeq (evAsg (ev2 opMod (evCall bInt (evCons (ev2 opIx (evVar 0) (cI 1)) evNil)) (evVar 1)) (gtName 3))
    (evSeq (evAsg (ev2 opDiv (ev2 opIx (evVar 0) (cI 1)) (evVar 1)) (gtSub (evVar 0) (cI 1)))
    (evRet (evVar 3)))) evNext)
    (evSeq (evAsg (ev2 opMod (evCall bInt (evCons (ev2 opPow (ev2 (opAdd false) (ev2 (opAdd false) (ev2 opIx (evVar 0) (cI 3)) (ev2 (opMul false) (cI 9049) (ev2 opIx (evVar 0) (cI 2)))) (cI 130073)) (cI 5)) evNil)) (cI 2147483629)) (gtName 4))
    (evRet (ev2 opMod (ev2 opMod (evCall bInt (evCons (ev2 opPow (ev2 (opAdd false) (ev2 (opAdd false) (ev2 (opMul false) (evVar 4) (cI 44089)) (ev2 (opMul false) (cI 60077) (ev2 opIx (evVar 0) (cI 2)))) (cI 47)) (cI 3)) evNil)) (cI 1000000007)) (evVar 1))))))) δ
@[irreducible] def f__law_below : List RV → M RV := fnD 5 m__law_below
def m__law_pick (δ : DL.Env) : M (Fl × DL.Env) :=
  (evRet (ev2 opIx (evVar 1) (evCallF 2 f__law_below (evCons (evVar 0) (evCons (evCall bLen (evCons (evVar 1) evNil)) evNil))))) δ
@[irreducible] def f__law_pick : List RV → M RV := fnD 2 m__law_pick
def p__law_same_e1 (rec : List RV → M RV) (δ : DL.Env) : M RV :=
  (evCallF 2 rec (evCons (evVar 2) (evCons (evVar 3) evNil))) δ
def m__law_same (rec : List RV → M RV) (δ : DL.Env) : M (Fl × DL.Env) :=
  (evSeq (evIfS (evB (evCall bIsi (evCons (evVar 1) (evCons (evTup (evCons (cT .lst) (evCons (cT .tup) evNil))) evNil)))) (evSeq (evIfS (evOrT (evB (ev2 (opEq true) (evCall bIsi (evCons (evVar 0) (evCons (cT .lst) evNil))) (evCall bIsi (evCons (evVar 1) (evCons (cT .lst) evNil))))) (evB (ev2 (opEq true) (evCall bIsi (evCons (evVar 0) (evCons (cT .tup) evNil))) (evCall bIsi (evCons (evVar 1) (evCons (cT .tup) evNil)))))) (evRet (cB false)) evNext)
    (evRet (evAnd (ev2 (opEq false) (evCall bLen (evCons (evVar 0) evNil)) (evCall bLen (evCons (evVar 1) evNil))) (evCall bAll (evCons (evLc false [2, 3] (evZip (evCons (evVar 0) (evCons (evVar 1) evNil))) (gtUnp 2 (gtCons (gtName 2) (gtCons (gtName 3) gtNil))) evYes (p__law_same_e1 rec)) evNil))))) evNext)
    (evSeq (evIfS (evB (evCall bIsi (evCons (evVar 1) (evCons (cT .dct) evNil)))) (evRet (evAnd (evCall bIsi (evCons (evVar 0) (evCons (cT .dct) evNil))) (evCallF 2 rec (evCons (evCall (bList false) (evCons evNever evNil)) (evCons (evCall (bList false) (evCons evNever evNil)) evNil))))) evNext)
    (evSeq (evIfS (evB (evCall bIsi (evCons (evVar 1) (evCons (cT .int) evNil)))) (evRet (evAnd (evCall bIsi (evCons (evVar 0) (evCons (cT .int) evNil))) (evAnd (ev2 (opEq false) (evCall bIsi (evCons (evVar 0) (evCons (cT .bl) evNil))) (evCall bIsi (evCons (evVar 1) (evCons (cT .bl) evNil)))) (ev2 (opEq false) (evVar 0) (evVar 1))))) evNext)
    (evSeq (evIfS (evB (ev2 (opIs false) (evVar 1) cN)) (evRet (ev2 (opIs false) (evVar 0) cN)) evNext)
    (evSeq (evIfS (evB (evCall bIsi (evCons (evVar 1) (evCons (cT .str) evNil)))) (evRet (evAnd (evCall bIsi (evCons (evVar 0) (evCons (cT .str) evNil))) (ev2 (opEq false) (evVar 0) (evVar 1)))) evNext)
    (evRet (evAnd (evNot (evCall bIsi (evCons (evVar 0) (evCons (evTup (evCons (cT .int) (evCons (cT .str) (evCons (cT .lst) (evCons (cT .tup) (evCons (cT .dct) evNil)))))) evNil)))) (ev2 (opEq false) (evVar 0) (evVar 1))))))))) δ
@[irreducible] def f__law_same (n : Nat) : List RV → M RV := Nat.rec (fun _ => M.fail) (fun _ r => fnD 4 (m__law_same r)) n
theorem f__law_same_0 : f__law_same 0 = fun _ => M.fail := by unfold f__law_same; rfl
theorem f__law_same_s (n : Nat) : f__law_same (n + 1) = fnD 4 (m__law_same (f__law_same n)) := by unfold f__law_same; rfl
end
end SH

set_option Elab.async false
set_option linter.all false
set_option maxRecDepth 100000
set_option maxHeartbeats 4000000
/-! DL18: names of the module that stand for whole numbers, - x, abs, min, max, gcd, str of a number, empty dict. -/
namespace DL
open PySem PySem.Spec PyProof.Rows L2 RZ
section
variable {ι : Type} {𝒳 : ι → Cx} {G : Gh} {e a b : Expr} {es : List Expr} {Fe Fa Fb : Env → M RV} {R : Env → M (List RV)} {pos p : Pos} {x : Str}
theorem de_glob {n : Int} {t : Tok} (hm : ∀ i, (𝒳 i).mg x = some (.int n t)) (hg : ∀ i, Gl (𝒳 i) x := by intro _; rfl) (hd : (x == ("__debug__" : Str)) = false := by decide) : DE 𝒳 G (.Name x pos) (cI n) :=
  ⟨_, fun i => pe_glob (v := .int n) (hg i) (hm i) ⟨t, rfl⟩ hd, fun c σ δ Q s w h => QV.here (v := .d (.int n)) h w rfl⟩
theorem de_neg (ha : DE 𝒳 G a Fa) : DE 𝒳 G (.UnaryOp .USub a pos) (evNeg Fa) := by
  obtain ⟨t, pt, rt⟩ := ha
  refine ⟨_, fun i => pe_un un_neg (pt i), fun c σ δ Q s w h => ?_⟩
  refine rt c σ δ _ s w (wpM_mono (wpM_bind.mp h) (fun u W1 h1 y c1 hw e1 w1 r1 => ?_) fun _ _ q => q)
  subst hw
  obtain ⟨i, rfl, q⟩ := asI_ok (wpM_bind.mp h1)
  exact ⟨i, r1, QV.here (v := .d (.int (-i))) (QV.mono e1 q) w1 rfl⟩
def bAbs : List RV → M RV
  | [.d (.int i)] => M.ret (.d (.int (if i < 0 then -i else i)))
  | _ => M.fail
theorem cd_abs : CallD G (fun xs H Q => ∃ i, xs = [.int i] ∧ Q (.int (if i < 0 then -i else i)) H) bAbs := by
  intro c xs us Q w ru h
  match us, ru, h with
  | [.d (.int i)], ru, h =>
    obtain ⟨y, rfl, r⟩ := vs1 ru
    cases r
    exact ⟨i, rfl, QV.here (v := .d (.int _)) h w rfl⟩
  | [], _, h => exact h.elim
  | [.r _], _, h => exact h.elim
  | .r _ :: _ :: _, _, h => exact h.elim
  | .d y :: _ :: _, _, h => cases y <;> exact h.elim
  | [.d .non], _, h => exact h.elim
  | [.d (.bl _)], _, h => exact h.elim
  | [.d (.str _)], _, h => exact h.elim
  | [.d (.ty _)], _, h => exact h.elim
  | [.d (.frz _)], _, h => exact h.elim
  | [.d (.lst _)], _, h => exact h.elim
  | [.d (.tup _)], _, h => exact h.elim
  | [.d (.dK _)], _, h => exact h.elim
  | [.d (.dT _)], _, h => exact h.elim
/-- a function of two whole numbers -/
def b2i (g : Int → Int → Int) (us : List RV) : M RV := match us with
  | [u, v] => (M.opt (int2 u v)).bind fun q => M.ret (.d (.int (g q.1 q.2)))
  | _ => M.fail
theorem cd_2i {g : Int → Int → Int} : CallD G (fun xs H Q => ∃ i j, xs = [.int i, .int j] ∧ Q (.int (g i j)) H) (b2i g) := by
  intro c xs us Q w ru h
  match us, ru, h with
  | [u, v], ru, h =>
    obtain ⟨y, z, rfl, r1, r2⟩ := vs2 ru
    obtain ⟨⟨i, j⟩, e, q⟩ := wpM_opt (wpM_bind.mp h)
    obtain ⟨rfl, rfl⟩ := int2_ok e
    cases r1
    cases r2
    exact ⟨i, j, rfl, QV.here (v := .d (.int _)) q w rfl⟩
  | [], _, h => exact h.elim
  | [_], _, h => exact h.elim
  | _ :: _ :: _ :: _, _, h => exact h.elim
abbrev bMax := b2i fun i j => if j > i then j else i
abbrev bMin := b2i fun i j => if j < i then j else i
abbrev bGcd := b2i fun i j => ((Nat.gcd i.natAbs j.natAbs : Nat) : Int)
/-- a call of a built-in function that a module's name stands for -/
theorem de_callG {id : String} {r : List V → Hp → VK → Prop} {f : List RV → M RV} (hc : ∀ i, CallR (𝒳 i) (.builtin id) r) (hr : CallD G r f) (hm : ∀ i, (𝒳 i).mg x = some (.builtin id)) (ha : DA 𝒳 G (e :: es) R) (hg : ∀ i, Gl (𝒳 i) x := by intro _; rfl)
    (hdb : (x == ("__debug__" : Str)) = false := by decide) (he : ∀ i, starEach (e :: es) (𝒳 i).env = (false, eval e (𝒳 i).env) :: starEach es (𝒳 i).env := by intro _; rfl) (hpl : ∀ i, (backTo pos (starEach es (𝒳 i).env)).any (·.1) = false := by intro _; rfl) :
    DE 𝒳 G (.Call (.Name x p) (e :: es) [] pos) (evCall f R) := by
  obtain ⟨t, pt, rt⟩ := ha
  exact ⟨_, fun i => pe_callBfun (hc i) (hg i) (hm i) (pt i) hdb (he i) (hpl i), rt.call hr⟩
def bStr : List RV → M RV
  | [.d (.int i)] => (M.guard (i.natAbs.log2 < 1920)).bind fun _ => M.ret (.d (.str (toString i)))
  | _ => M.fail
theorem cd_str : CallD G (fun xs H Q => ∃ i, xs = [.int i] ∧ i.natAbs.log2 < 1920 ∧ Q (.str (toString i)) H) bStr := by
  intro c xs us Q w ru h
  match us, ru, h with
  | [.d (.int i)], ru, h =>
    obtain ⟨y, rfl, r⟩ := vs1 ru
    cases r
    obtain ⟨g, q⟩ := wpM_guard (wpM_bind.mp h)
    exact ⟨i, rfl, g, QV.here (v := .d (.str (toString i))) q w rfl⟩
  | [], _, h => exact h.elim
  | [.r _], _, h => exact h.elim
  | .r _ :: _ :: _, _, h => exact h.elim
  | .d y :: _ :: _, _, h => cases y <;> exact h.elim
  | [.d .non], _, h => exact h.elim
  | [.d (.bl _)], _, h => exact h.elim
  | [.d (.str _)], _, h => exact h.elim
  | [.d (.ty _)], _, h => exact h.elim
  | [.d (.frz _)], _, h => exact h.elim
  | [.d (.lst _)], _, h => exact h.elim
  | [.d (.tup _)], _, h => exact h.elim
  | [.d (.dK _)], _, h => exact h.elim
  | [.d (.dT _)], _, h => exact h.elim
theorem de_dict0 : DE 𝒳 G (.Dict [] [] pos) (fun _ => M.ret (.d (.dK []))) := by
  refine ⟨_, fun i => pe_dnewK, fun c σ δ Q s w h p hp => ?_⟩
  obtain ⟨e, w2⟩ := w.lay (o := .dK []) hp
  exact h (.ref p) (c.lay p (.dK [])) rfl e w2 ⟨p, [], rfl, .inl upd_same, w.layAv hp, rfl⟩
end
end DL
set_option Elab.async false
set_option linter.all false
set_option maxRecDepth 100000
set_option maxHeartbeats 4000000
/-! DL19: sorted(xs, key=f), f a function of the program: only what f promises in the layer is used (its call may touch generators, tokens, slots of frames). -/
namespace DL
open PySem PySem.Calls PyProof.Rows PySem.W
section
variable {prog : Program} {w : World} {A : Around} {E : Value → Shared → Prop} {s : Shared} {a kS : Addr} {b : Bool} {vs : List Value} {e1 : Nat} {P : PySem.Fin → Shared → Prop}
theorem keyJ_rest {f : Value} {ns : List Int} {J : Shared → Prop} (j0 : J s) (nk : s.heap.get? kS = some (seqObj "list" #[] 0)) (na : s.heap.get? a = some (seqObj "list" #[] e1)) (hka : kS ≠ a) (hlen : ns.length = vs.length) (hZ : vs.length ≤ sizeLine)
    (up : ∀ s' kA e (g : Array Value → Array Value), J s' → s'.heap.get? kS = some (seqObj "list" kA e) → J { s' with heap := s'.heap.update kS (Obj.mapSeq g) })
    (turn : ∀ (i : Nat) (v : Value) (k : Int), vs[i]? = some v → ns[i]? = some k → ∀ s', J s' → (∃ kA e, s'.heap.get? kS = some (seqObj "list" kA e)) → s'.heap.get? a = some (seqObj "list" #[] e1) →
      wpAny (model prog w) A (call f [v]) (fun u s'' => J s'' ∧ (∃ t, u = .int k t) ∧ s''.heap.get? kS = s'.heap.get? kS ∧ s''.heap.get? a = s'.heap.get? a) (fun _ _ => False) s')
    (done : ∀ s' kA e, J s' → s'.heap.get? kS = some (seqObj "list" kA e) → s'.heap.get? a = some (seqObj "list" #[] e1) → EachIs (fun v k => ∃ t, v = .int k t) kA.toList ns → kA.size = vs.length →
      wpAny (model prog w) A (ksk_end a b vs.toArray e1 (.ref kS) kA) P E s') :
    wpAny (model prog w) A (ksk_rest a f b vs.toArray e1 (.ref kS)) P E s := by
  unfold ksk_rest
  refine wpAny_bind (wpAny_rule ?_)
  first
    | rw [List.forIn_toArray]
    | (rw [← Array.forIn_toList]; simp only [List.toList_toArray])
    | rw [← Array.forIn_toList]
  refine wpAny_bind (ksk_fold (fun i s' => J s' ∧ (∃ kA e, s'.heap.get? kS = some (seqObj "list" kA e) ∧ EachIs (fun v k => ∃ t, v = .int k t) kA.toList (ns.take i)) ∧ s'.heap.get? a = some (seqObj "list" #[] e1)) vs 0 s
    ⟨j0, ⟨#[], 0, nk, by rw [List.take_zero]; exact EachIs.nil⟩, na⟩ ?one ?fin)
  case one =>
    rintro j x s' hx ⟨hj, ⟨kA, e, nk', hk⟩, na'⟩
    simp only [Nat.zero_add] at hk ⊢
    have hlt : j < vs.length := (List.getElem?_eq_some_iff.mp hx).1
    obtain ⟨k, hkj⟩ : ∃ k, ns[j]? = some k := ⟨_, List.getElem?_eq_getElem (by omega)⟩
    have hz : kA.size ≤ vs.length := by
      have h2 := hk.length
      rw [Array.length_toList, List.length_take] at h2
      omega
    refine wpAny_bind (wpAny_attempt (wpAny_mono (turn j x k hx hkj s' hj ⟨kA, e, nk'⟩ na') (fun v s'' q => ?_) fun _ _ q => q.elim))
    obtain ⟨hj2, ⟨t, rfl⟩, k2, a2⟩ := q
    try dsimp only
    have nk2 := k2.trans nk'
    obtain ⟨c2, hc2⟩ : ∃ c2, (s''.heap.update kS (Obj.mapSeq (·.push (.int k t)))).get? kS = some (seqObj "list" (kA.push (.int k t)) c2) := ⟨_, get?_update_seq nk2 (·.push (.int k t))⟩
    refine wpAny_bind (listUpdate_at nk2 rfl ?_ (Nat.le_trans hz hZ) (Nat.le_trans (Nat.le_of_eq (Array.size_push ..)) (Nat.succ_le_succ (Nat.le_trans hz hZ))))
    refine wpAny_pure ⟨rfl, up s'' kA e _ hj2 nk2, ⟨_, c2, hc2, ?_⟩, ((Heap.SameBut.update s''.heap kS _).2 a hka.symm).trans (a2.trans na')⟩
    have ek : ns.take (j + 1) = ns.take j ++ [k] := by rw [List.take_add_one, hkj]; simp
    have ea : (kA.push (Value.int k t)).toList = kA.toList ++ [.int k t] := by simp
    rw [ek, ea]
    exact each_snoc (R := fun (v : Value) (k : Int) => ∃ t, v = .int k t) ⟨t, rfl⟩ hk
  case fin =>
    rintro s' ⟨hj, ⟨kA, e, nk', hk⟩, na'⟩
    have e3 : ns.take (0 + vs.length) = ns := List.take_of_length_le (by omega)
    rw [e3] at hk
    refine wpAny_bind (listItems_at nk' rfl ?_)
    refine done s' kA e hj nk' na' hk ?_
    have h2 := hk.length
    rw [Array.length_toList] at h2
    omega
theorem keyJ_tree {f : Value} {n : Nat} {ns : List Int} (J : Addr → Shared → Prop) (ho : s.heap.get? a = some (seqObj "list" vs.toArray n)) (hlen : ns.length = vs.length) (hZ : vs.length ≤ sizeLine) (hu : ∀ d, d ∈ ns.map PyData.int → A.units + d.depth < cLine)
    (j0 : ∀ kS h', s.heap.objs.size ≤ kS → (∀ b o, b ≠ a → s.heap.get? b = some o → h'.get? b = some o) → J kS { s with heap := h' })
    (up : ∀ kS s' kA e (g : Array Value → Array Value), s.heap.objs.size ≤ kS → J kS s' → s'.heap.get? kS = some (seqObj "list" kA e) → J kS { s' with heap := s'.heap.update kS (Obj.mapSeq g) })
    (turn : ∀ (i : Nat) (v : Value) (k : Int), vs[i]? = some v → ns[i]? = some k → ∀ kS s', s.heap.objs.size ≤ kS → J kS s' → (∃ o, s'.heap.get? kS = some o) → (∃ o, s'.heap.get? a = some o) →
      wpAny (model prog w) A (call f [v]) (fun u s'' => J kS s'' ∧ (∃ t, u = .int k t) ∧ s''.heap.get? kS = s'.heap.get? kS ∧ s''.heap.get? a = s'.heap.get? a) (fun _ _ => False) s')
    (h : ∀ kS s' h' tk out c, s.heap.objs.size ≤ kS → kS ≠ a → J kS s' → (∀ b o, b ≠ a → b ≠ kS → s'.heap.get? b = some o → h'.get? b = some o) → h'.get? a = some (seqObj "list" (List.toArray out) c) → KeyedOut b (ns.map PyData.int) vs out →
      P (.done (.ret .none)) { s' with heap := h', toks := tk }) :
    wpAny (model prog w) A (ksk_tree a f b) P E s := by
  have ha : a < s.heap.objs.size := Heap.lt_size ho
  obtain ⟨e1, ho1⟩ : ∃ e1, (s.heap.update a (Obj.mapSeq fun _ => (#[] : Array Value))).get? a = some (seqObj "list" #[] e1) := ⟨_, get?_update_seq ho fun _ => #[]⟩
  have hkS : ((s.heap.update a (Obj.mapSeq fun _ => (#[] : Array Value))).push (seqObj "tuple" vs.toArray 0)).objs.size = s.heap.objs.size + 1 := by rw [size_push', Heap.size_update]
  have hge : s.heap.objs.size ≤ ((s.heap.update a (Obj.mapSeq fun _ => (#[] : Array Value))).push (seqObj "tuple" vs.toArray 0)).objs.size := by rw [hkS]; omega
  have hne : ((s.heap.update a (Obj.mapSeq fun _ => (#[] : Array Value))).push (seqObj "tuple" vs.toArray 0)).objs.size ≠ a := by rw [hkS]; exact Nat.ne_of_gt (Nat.lt_succ_of_lt ha)
  unfold ksk_tree
  refine wpAny_bind (listItems_at ho rfl ?_)
  refine wpAny_bind (listUpdate_at ho rfl ?_ (by rw [List.size_toArray]; exact hZ) (Nat.zero_le _))
  refine wpAny_bind (seqEpoch_at ho1 rfl ?_)
  refine wpAny_bind (wpAny_newTuple ?_ (by show vs.length ≤ _; exact hZ))
  refine wpAny_bind (wpAny_newList ?_ (Nat.zero_le _))
  refine wpAny_holding ?_
  refine keyJ_rest (ns := ns) (J := J _) (s := { s with heap := ((s.heap.update a (Obj.mapSeq fun _ => (#[] : Array Value))).push (seqObj "tuple" vs.toArray 0)).push (seqObj "list" #[] 0) })
    (kS := ((s.heap.update a (Obj.mapSeq fun _ => (#[] : Array Value))).push (seqObj "tuple" vs.toArray 0)).objs.size)
    (j0 _ _ hge fun x o hx q => sortingHeap_old hx q) (Heap.get?_push_size _ rfl) (Heap.get?_push_of_some _ (Heap.get?_push_of_some _ ho1)) hne hlen hZ
    (fun s' kA e g hj q => up _ s' kA e g hge hj q) (fun i v k h1 h2 s' hj h3 h4 => ?_) (fun s' kA e hj q1 q2 he hsz => ?_)
  · obtain ⟨kA, e, h3⟩ := h3
    exact turn i v k h1 h2 _ s' hge hj ⟨_, h3⟩ ⟨_, h4⟩
  · obtain ⟨G, g1, g2⟩ := L2.restrict s'.heap fun x => decide (x ≠ ((s.heap.update a (Obj.mapSeq fun _ => (#[] : Array Value))).push (seqObj "tuple" vs.toArray 0)).objs.size)
    have kp : KeepsBut a G s'.heap := fun x o _ q => by
      by_cases hx : x = ((s.heap.update a (Obj.mapSeq fun _ => (#[] : Array Value))).push (seqObj "tuple" vs.toArray 0)).objs.size
      · rw [g2 x (decide_eq_false fun z => z hx)] at q; cases q
      · rw [g1 x (decide_eq_true hx)] at q; exact q
    have hal : AllAlike (ns.map PyData.int) := by
      intro d hd d' hd'
      obtain ⟨i, _, rfl⟩ := List.mem_map.mp hd
      obtain ⟨j, _, rfl⟩ := List.mem_map.mp hd'
      rfl
    have hsk : Sortable (ns.map PyData.int) := .inr fun d hd => by
      obtain ⟨i, _, rfl⟩ := List.mem_map.mp hd
      exact ⟨by simp, by simp⟩
    have hk' : ∀ {us : List Value} {ms : List Int}, EachIs (fun v k => ∃ t, v = Value.int k t) us ms → EachIs (fun v k => ∃ as, Reads s'.heap v k as) us (ms.map PyData.int) := by
      intro us ms q
      induction q with
      | nil => exact .nil
      | cons q _ ih =>
        obtain ⟨t, rfl⟩ := q
        exact .cons ⟨[], .int _ t⟩ ih
    refine keyH_end (κ := dataKind s'.heap (ns.map PyData.int)) (h₁ := G) kp (g2 _ (decide_eq_false fun z => z rfl)) q1 q2 hne (SortsAt.data (hk' he) hal hsk hu) hsz hZ fun h3 tk3 c k3 n3 => ?_
    exact h _ s' h3 tk3 _ c hge hne hj (fun x o hx hx2 q => k3 x o hx (by rw [g1 x (decide_eq_true hx2)]; exact q)) n3 ⟨s'.heap, kA.toList, hal, rfl, hk' he⟩
end
end DL
set_option Elab.async false
set_option linter.all false
set_option maxRecDepth 100000
set_option maxHeartbeats 4000000
/-! DL20: sorted(xs, key=f) in the layer. -/
namespace DL
open PySem PySem.Spec PyProof.Rows L2 RZ
def byKey {β : Type} (xs : List (β × Int)) : List (β × Int) := xs.mergeSort fun x y => decide (x.2 ≤ y.2)
def rSKF (K : PySem.W.Frag) (cv : Str → Value) (f : Addr) (Fn : List RV → M RV) : List V → List V → Hp → VK → Prop := fun vs zs H Q => ∃ (l : Addr) (xs : List V) (c : Cf) (rvs : List RV) (ks : List Int), vs = [V.ref l] ∧ zs = [V.ref f] ∧ c.H = H ∧ SqL K c.H l xs ∧ WOk c ∧ RepVs c rvs xs ∧
  ks.length = rvs.length ∧ (∀ (i : Nat) (u : RV) (k : Int), rvs[i]? = some u → ks[i]? = some k → wpM (Fn [u]) c.W (fun r W1 => r = .d (.int k) ∧ W1 = c.W) (fun _ _ => False)) ∧
  ∀ (c' : Cf) (p : Addr), Ext c c' → c'.W = c.W → WOk c' → c'.H p = none → Q (.ref p) (upd c'.H p (.lst ((byKey (xs.zip ks)).map (·.1))))
section
variable {X : Cx} {f : Addr} {fd : FuncData} {ps : List Str} {k : Nat} {Fn : List RV → M RV} {cv : Str → Value}
theorem cx_false {P : Program} {w : World} {outer : List PySem.Env} {H : Hp} {s s' : Shared} {u : Value} (h : L2N.CX P w outer H s (fun _ _ _ => False) u s') : False := by
  obtain ⟨_, _, _, _, _, h⟩ := h
  exact h.2.2.2.2.2.2.2
theorem each_zip {α : Type} : ∀ {xs : List V} {us : List Value} {ks : List α}, Vals xs us → ks.length = xs.length → PySem.W.EachIs (fun (u : Value) (p : V × α) => RelV p.1 u) us (xs.zip ks)
  | _, _, ks, .nil, h => by
    cases ks with
    | nil => exact .nil
    | cons _ _ => simp at h
  | _, _, ks, .cons r t, h => by
    cases ks with
    | nil => simp at h
    | cons k ks => exact .cons r (each_zip t (by simpa using h))
theorem vals_each {α : Type} {us : List Value} {ps : List (V × α)} (h : PySem.W.EachIs (fun (u : Value) (p : V × α) => RelV p.1 u) us ps) : Vals (ps.map (·.1)) us := by
  induction h with
  | nil => exact .nil
  | cons r _ ih => exact .cons r ih
theorem cr_sortedKeyF (F : FnOk X.prog X.w X.K X.mg X.base (L2N.CX X.prog X.w) k f fd ps (spW X.K cv 1 Fn)) (hp : ps.length = 1) (hr : Room (k + 2) X.A) (hb : Binds X.K fd ps []) :
    CallRK X (.builtin "sorted") [Str.ofString "key"] (rSKF X.K cv f Fn) := by
  intro pins s σ H vs zs us ws Q I r rz h
  obtain ⟨l, xs, c, rvs, ks, rfl, rfl, rfl, hs, wk, rp, hkl, hf, q⟩ := h
  obtain rfl := Vals.ref1 r
  obtain ⟨w1, rfl, e1⟩ := vals1 rz
  obtain rfl : w1 = Value.ref f := e1
  obtain ⟨its, rv, hl, hz⟩ := I.list hs
  have hrx : rvs.length = xs.length := paired_len rp
  have hrl : xs.length = its.length := rv.length
  have hlt : X.env.locals < s.heap.objs.size := I.lt
  obtain ⟨a, ha⟩ : ∃ a : Addr, a = s.heap.objs.size + 1 := ⟨_, rfl⟩
  have hal : s.heap.objs.size ≤ a := by rw [ha]; exact Nat.le_succ _
  have far : ∀ b : Addr, s.heap.objs.size ≤ b → (b ∈ X.ex ∨ X.s_0.heap.objs.size ≤ b) ∧ b ≠ X.env.locals ∧ (∀ x c, X.env.cells.lookup x = some c → c ≠ b) ∧ (∀ p ∈ X.pn ++ pins, p.1 ≠ b) ∧ b ∉ frs X.stack := by
    intro b hb
    refine ⟨.inr (Nat.le_trans I.sz hb), Nat.ne_of_gt (Nat.lt_of_lt_of_le hlt hb), fun x c e z => ?_, fun p hp z => ?_, fun z => ?_⟩
    · obtain ⟨v, o, ho, _⟩ := I.cell x c e
      exact absurd (Nat.lt_of_lt_of_le (Heap.lt_size ho) hb) (by rw [z]; exact Nat.lt_irrefl _)
    · exact absurd (Nat.lt_of_lt_of_le (Heap.lt_size (I.pin p hp).1) hb) (by rw [z]; exact Nat.lt_irrefl _)
    · rcases List.mem_cons.mp (I.stkSub b z) with e | e
      · exact absurd (Nat.lt_of_lt_of_le hlt hb) (by rw [e]; exact Nat.lt_irrefl _)
      · exact I.nofs hb e
  have hfresh : ∀ b, s.heap.objs.size ≤ b → c.H b = none := fun b hb => I.hok.fresh hb
  refine PySem.W.sorted_of_sort hl.isList (by rw [← hrl]; exact hz) (PyProof.Rows.ksk_s1 _ _) (fun _ => PyProof.Rows.ksk_l1 _ _) fun E' => ?_
  have hks : Builtin.«list.sort» { pos := [Value.ref (s.heap.objs.size + 1)], kw := [Str.ofString "key"].zip [Value.ref f] } = PyProof.Rows.ksk_tree (s.heap.objs.size + 1) (.ref f) false := PyProof.Rows.ksk_t1 _ _
  rw [hks]
  have hcs : s.heap.objs.size + 1 < (PySem.W.copyHeap s.heap its).objs.size := Heap.lt_size (PySem.W.copyHeap_at s.heap its)
  refine keyJ_tree (ns := ks) (a := s.heap.objs.size + 1) (s := { s with heap := PySem.W.copyHeap s.heap its })
    (fun kS s' => ∃ c' : Cf, c'.W = c.W ∧ Ext c c' ∧ WOk c' ∧ Inv X pins σ c'.H s' ∧ c'.H (s.heap.objs.size + 1) = none ∧ c'.H kS = none ∧ s'.os = s.os)
    (PySem.W.copyHeap_at s.heap its) (by omega) (by rw [← hrl]; exact hz) ?u ?z0 ?up ?turn ?fin
  case u =>
    intro d hd
    obtain ⟨i, _, rfl⟩ := List.mem_map.mp hd
    have := hr.un
    show X.A.units + 1 + 1 + _ < _
    simp only [PyData.depth]
    omega
  case z0 =>
    intro kS h' hk hh
    have hk' : s.heap.objs.size ≤ kS := Nat.le_trans (Nat.le_of_lt (Nat.lt_of_succ_lt hcs)) hk
    have fa := far (s.heap.objs.size + 1) (by omega)
    have I2 : L2.Inv X pins σ c.H { s with heap := h', toks := s.toks } := I.turned (it := s.heap.objs.size + 1) (fun b o hb e => hh b o hb (PySem.W.copyHeap_old e)) (hfresh _ (by omega)) fa.2.1 fa.1 fa.2.2.1 fa.2.2.2.1
    exact ⟨c, rfl, Ext.refl c, wk, I2, hfresh _ (by omega), hfresh _ hk', rfl⟩
  case up =>
    intro kS s' kA e g hk hj hg
    obtain ⟨c', h1, h2, h3, I2, h4, h5, h6⟩ := hj
    have hk' : s.heap.objs.size ≤ kS := Nat.le_trans (Nat.le_of_lt (Nat.lt_of_succ_lt hcs)) hk
    have fa := far kS hk'
    have I3 : L2.Inv X pins σ c'.H { s' with heap := s'.heap.update kS (Obj.mapSeq g), toks := s'.toks } := I2.turned (it := kS) (fun b o hb e => by rw [Heap.get?_update_ne _ _ _ _ hb]; exact e) h5 fa.2.1 fa.1 fa.2.2.1 fa.2.2.2.1
    exact ⟨c', h1, h2, h3, I3, h4, h5, h6⟩
  case turn =>
    intro i u k' hu hki kS s' hk hj ho1 ho2
    obtain ⟨c', h1, h2, h3, I2, h4, h5, h6⟩ := hj
    have hk' : s.heap.objs.size ≤ kS := Nat.le_trans (Nat.le_of_lt (Nat.lt_of_succ_lt hcs)) hk
    have fk := far kS hk'
    have fa := far (s.heap.objs.size + 1) (by omega)
    have il : i < its.length := (List.getElem?_eq_some_iff.mp hu).1
    obtain ⟨ru, hru⟩ : ∃ ru, rvs[i]? = some ru := ⟨_, List.getElem?_eq_getElem (by omega)⟩
    obtain ⟨x, hx, hrx'⟩ := paired_get rp hru
    obtain ⟨u', hu', rxu⟩ := paired_get rv hx
    rw [hu] at hu'
    cases hu'
    have hw := hf i ru k' hru hki
    rw [← h1] at hw
    have hsp : spW X.K cv 1 Fn [x] c'.H (fun v H' => v = .int k' ∧ ∃ c2 : Cf, c2.H = H' ∧ c2.W = c.W ∧ Ext c' c2 ∧ WOk c2) (fun _ _ _ => False) := by
      refine ⟨c', [ru], rfl, h3, .cons (hrx'.mono h2) .nil, rfl, wpM_mono hw (fun r W1 q => ?_) fun _ _ q => q.elim⟩
      obtain ⟨rfl, rfl⟩ := q
      intro y c2 hw2 e2 w2 r2
      exact ⟨r2, c2, rfl, hw2.trans h1, e2, w2⟩
    have hv : Vals [x] [u] := .cons rxu .nil
    refine wpAny_call (codeAny_mono (F.run X.A.in1.in1 X.stack s' c'.H ⟨[u], []⟩ [u] [x] _ _ hr.in1.in1 I2.env0.in1.in1 (by have := hb s' [u] I2.kIn (by simp [hp]); simpa using this) hv hsp) fun r s2 hq => ?_)
    cases r with
    | error e => exact (cx_false hq).elim
    | ok fl =>
      cases fl with
      | next => exact False.elim hq
      | brk => exact False.elim hq
      | cont => exact False.elim hq
      | ret z =>
        obtain ⟨v, H', os, bare, un, hok, rz', rfl, c2, rfl, w2, e2, wk2⟩ := hq
        obtain ⟨o1, ho1⟩ := ho1
        obtain ⟨o2, ho2⟩ := ho2
        exact ⟨⟨c2, w2, h2.trans e2, wk2, I2.call' (ch := []) os un hok bare (fun b z => absurd z (by simp)), un.free _ _ ho2 h4 (by simp), un.free _ _ ho1 h5 (by simp), os.trans h6⟩, rz', (un.keep _ _ ho1 h5 fk.2.2.2.2 (by simp)).trans ho1.symm, (un.keep _ _ ho2 h4 fa.2.2.2.2 (by simp)).trans ho2.symm⟩
  case fin =>
    intro kS s' h' tk out cc hk hne hj hkeep hout ko
    obtain ⟨c', h1, h2, h3, I2, h4, h5, h6⟩ := hj
    have hk' : s.heap.objs.size ≤ kS := Nat.le_trans (Nat.le_of_lt (Nat.lt_of_succ_lt hcs)) hk
    have fk := far kS hk'
    have fa := far (s.heap.objs.size + 1) (by omega)
    refine ⟨rfl, ?_⟩
    have hbs : (xs.zip ks).map (fun p => PyData.int p.2) = ks.map PyData.int := by
      have : (xs.zip ks).map Prod.snd = ks := List.map_snd_zip (by omega)
      calc (xs.zip ks).map (fun p => PyData.int p.2) = ((xs.zip ks).map Prod.snd).map PyData.int := by rw [List.map_map]; rfl
        _ = ks.map PyData.int := by rw [this]
    have hE : PySem.W.EachIs (fun (u : Value) (p : V × Int) => RelV p.1 u) its (xs.zip ks) := each_zip rv (by omega)
    have e3 := PySem.W.keyedOut_each (fun p : V × Int => PyData.int p.2) (by rw [hbs]; exact ko) hE
    rw [PySem.W.dataLe_int] at e3
    have e4 : Vals ((byKey (xs.zip ks)).map (·.1)) out := vals_each e3
    have hlen : ((byKey (xs.zip ks)).map (·.1)).length ≤ sizeLine := by
      unfold byKey
      rw [List.length_map, List.length_mergeSort, List.length_zip]
      omega
    obtain ⟨G1, g1, g1'⟩ := L2.restrict s'.heap fun x => decide (x ≠ kS)
    obtain ⟨G2, g2, g2'⟩ := L2.restrict G1 fun x => decide (x ≠ s.heap.objs.size + 1)
    have I3 : L2.Inv X pins σ c'.H { s' with heap := G1, toks := s'.toks } := I2.turned (it := kS) (fun b o hb e => by rw [g1 b (decide_eq_true hb)]; exact e) h5 fk.2.1 fk.1 fk.2.2.1 fk.2.2.2.1
    have I4 := I3.turned (h' := G2) (t' := s'.toks) (it := s.heap.objs.size + 1) (fun b o hb e => by rw [g2 b (decide_eq_true hb)]; exact e) h4 fa.2.1 fa.1 fa.2.2.1 fa.2.2.2.1
    have I5 := I4.laidN (h' := h') (a := s.heap.objs.size + 1) (o := .lst ((byKey (xs.zip ks)).map (·.1))) (t' := tk) (fun b o e => by
      by_cases hb : b = s.heap.objs.size + 1
      · rw [g2' b (decide_eq_false fun z => z hb)] at e; cases e
      · rw [g2 b (decide_eq_true hb)] at e
        by_cases hb2 : b = kS
        · rw [g1' b (decide_eq_false fun z => z hb2)] at e; cases e
        · rw [g1 b (decide_eq_true hb2)] at e
          exact hkeep b o hb hb2 e) (g2' _ (decide_eq_false fun z => z rfl)) h4 ⟨hlen, out, cc, e4, hout⟩
    exact ⟨.ref _, _, I5, rfl, q c' _ h2 h1 h3 h4⟩
end
end DL
set_option Elab.async false
set_option linter.all false
set_option maxRecDepth 100000
set_option maxHeartbeats 4000000
/-! DL21: the rule of sorted(xs, key=f). -/
namespace DL
open PySem PySem.Spec PyProof.Rows L2 RZ
def KeysOK (Fn : List RV → M RV) (xs : List D) (W : Wd) (ks : List Int) : Prop := ks.length = xs.length ∧ ∀ (i : Nat) (u : D) (k : Int), xs[i]? = some u → ks[i]? = some k → wpM (Fn [.d u]) W (fun r W1 => r = .d (.int k) ∧ W1 = W) (fun _ _ => False)
open Classical in
noncomputable def sortK (Fn : List RV → M RV) (xs : List D) : M RV := fun W => if h : ∃ ks, KeysOK Fn xs W ks then some (.ok (.d (.lst ((byKey (xs.zip h.choose)).map (·.1)))), W) else none
noncomputable def evSortK (Fn : List RV → M RV) (Fe : Env → M RV) (δ : Env) : M RV := (Fe δ).bind fun u => match u with
  | .d (.lst xs) => sortK Fn xs
  | _ => M.fail
theorem sortK_out {Fn : List RV → M RV} {xs : List D} {W : Wd} {Q : RV → Wd → Prop} {E : DX → Wd → Prop} (h : wpM (sortK Fn xs) W Q E) : ∃ ks, KeysOK Fn xs W ks ∧ Q (.d (.lst ((byKey (xs.zip ks)).map (·.1)))) W := by
  unfold wpM sortK at h
  by_cases q : ∃ ks, KeysOK Fn xs W ks
  · rw [dif_pos q] at h
    exact ⟨_, q.choose_spec, h⟩
  · rw [dif_neg q] at h
    exact h.elim
theorem w_sortK {Fn : List RV → M RV} {xs : List D} {W : Wd} {Q : RV → Wd → Prop} {E : DX → Wd → Prop} {ks : List Int} (k : KeysOK Fn xs W ks) (h : Q (.d (.lst ((byKey (xs.zip ks)).map (·.1)))) W) : wpM (sortK Fn xs) W Q E := by
  have q : ∃ ks, KeysOK Fn xs W ks := ⟨ks, k⟩
  unfold wpM sortK
  rw [dif_pos q]
  have e : q.choose = ks := by
    refine List.ext_getElem? fun i => ?_
    have c := q.choose_spec
    by_cases hi : i < xs.length
    · obtain ⟨u, hu⟩ : ∃ u, xs[i]? = some u := ⟨_, List.getElem?_eq_getElem hi⟩
      obtain ⟨a, ha⟩ : ∃ a, q.choose[i]? = some a := ⟨_, List.getElem?_eq_getElem (by rw [c.1]; exact hi)⟩
      obtain ⟨b, hb⟩ : ∃ b, ks[i]? = some b := ⟨_, List.getElem?_eq_getElem (by rw [k.1]; exact hi)⟩
      have h1 := c.2 i u a hu ha
      have h2 := k.2 i u b hu hb
      unfold wpM at h1 h2
      rw [ha, hb]
      cases e : Fn [.d u] W with
      | none => rw [e] at h1; exact h1.elim
      | some p =>
        obtain ⟨r, W1⟩ := p
        rw [e] at h1 h2
        cases r with
        | error _ => exact h1.elim
        | ok r =>
          have := h1.1.symm.trans h2.1
          cases this
          rfl
    · rw [List.getElem?_eq_none (by rw [c.1]; omega), List.getElem?_eq_none (by rw [k.1]; omega)]
  show Q _ W
  rw [e]
  exact h
theorem rSKF_any {K : PySem.W.Frag} {cv : Str → Value} {f : Addr} {Fn : List RV → M RV} {v : V} {H : Hp} {Q : VK} : rSKF K cv f Fn [v] [V.ref f] H Q = rSKF K cv 0 Fn [v] [V.ref 0] H Q :=
  propext ⟨fun ⟨l, xs, c, rvs, ks, h1, _, h3⟩ => ⟨l, xs, c, rvs, ks, h1, rfl, h3⟩, fun ⟨l, xs, c, rvs, ks, h1, _, h3⟩ => ⟨l, xs, c, rvs, ks, h1, rfl, h3⟩⟩
theorem zip_getD {α : Type} {xs : List α} {ks : List Int} {p : α × Int} (h : p ∈ xs.zip ks) : ∃ i : Nat, xs[i]? = some p.1 ∧ ks[i]? = some p.2 := by
  obtain ⟨i, hi⟩ := List.mem_iff_getElem?.mp h
  rw [List.getElem?_zip_eq_some] at hi
  exact ⟨i, hi⟩
theorem byKey_map {α β : Type} (g : α → β) (xs : List (α × Int)) : (byKey xs).map (fun p => (g p.1, p.2)) = byKey (xs.map fun p => (g p.1, p.2)) := by
  unfold byKey
  exact List.map_mergeSort fun a _ b _ => rfl
/-- sorted alike: what stands for the items stands for them in the new order -/
theorem zip3_fst {α β : Type} : ∀ {xs : List α} {ys : List β} {ks : List Int}, xs.length = ys.length → ((xs.zip ys).zip ks).map (fun p => (p.1.1, p.2)) = xs.zip ks
  | [], [], _, _ => by simp
  | [], _ :: _, _, h => by simp at h
  | _ :: _, [], _, h => by simp at h
  | _ :: _, _ :: _, [], _ => by simp
  | x :: xs, y :: ys, k :: ks, h => by
    have := zip3_fst (xs := xs) (ys := ys) (ks := ks) (by simpa using h)
    simp only [List.zip_cons_cons, List.map_cons, this]
theorem zip3_snd {α β : Type} : ∀ {xs : List α} {ys : List β} {ks : List Int}, xs.length = ys.length → ((xs.zip ys).zip ks).map (fun p => (p.1.2, p.2)) = ys.zip ks
  | [], [], _, _ => by simp
  | [], _ :: _, _, h => by simp at h
  | _ :: _, [], _, h => by simp at h
  | _ :: _, _ :: _, [], _ => by simp
  | x :: xs, y :: ys, k :: ks, h => by
    have := zip3_snd (xs := xs) (ys := ys) (ks := ks) (by simpa using h)
    simp only [List.zip_cons_cons, List.map_cons, this]
theorem repL_each {c : Cf} : ∀ {ps : List ((D × V) × Int)}, (∀ p ∈ ps, Rep c p.1.1 p.1.2) → RepL c (ps.map fun p => p.1.1) (ps.map fun p => p.1.2)
  | [], _ => rfl
  | p :: ps, h => ⟨_, _, rfl, h p (by simp), repL_each fun q hq => h q (by simp [hq])⟩
/-- sorted alike: what stands for the items stands for them in the new order -/
theorem rep_byKey {c : Cf} {ds : List D} {vs : List V} {ks : List Int} (r : RepL c ds vs) : RepL c ((byKey (ds.zip ks)).map (·.1)) ((byKey (vs.zip ks)).map (·.1)) := by
  have hl := repL_len r
  have z := repL_each (c := c) (ps := byKey ((ds.zip vs).zip ks)) fun p hp => by
    have hp2 : p ∈ (ds.zip vs).zip ks := List.mem_mergeSort.mp hp
    obtain ⟨i, h1, _⟩ := zip_getD hp2
    rw [List.getElem?_zip_eq_some] at h1
    obtain ⟨v, hv, rr⟩ := repL_get r h1.1
    rw [h1.2] at hv
    cases hv
    exact rr
  rw [← zip3_fst (ks := ks) hl, ← zip3_snd (ks := ks) hl, ← byKey_map (fun p : D × V => p.1), ← byKey_map (fun p : D × V => p.2), List.map_map, List.map_map]
  exact z
section
variable {ι : Type} {𝒳 : ι → Cx} {G : Gh} {e : Expr} {y : Str} {p p2 pos kp : Pos} {Fe : Env → M RV} {Fn : List RV → M RV} {k j : Nat}
theorem de_sortedKey (hF : ∀ i, CalD (𝒳 i).prog (𝒳 i).w (𝒳 i).K (𝒳 i).mg (𝒳 i).base G.cv j y 1 Fn) (hr : ∀ i, Room k (𝒳 i).A) (hK : ∀ i, (𝒳 i).K = G.K) (hm : ∀ i, (𝒳 i).mg "sorted" = none) (ha : DE 𝒳 G e Fe)
    (hjk : j + 2 ≤ k := by omega) (hg : ∀ i, Gl (𝒳 i) "sorted" := by intro _; rfl) (hgy : ∀ i, Gl (𝒳 i) y := by intro _; rfl) (hdb : (y == ("__debug__" : Str)) = false := by decide)
    (hs : ∀ i, starEach [e] (𝒳 i).env = (false, eval e (𝒳 i).env) :: starEach [] (𝒳 i).env := by intro _; rfl) (he : ∀ i, backTo pos (starEach [e] (𝒳 i).env) = (false, eval e (𝒳 i).env) :: backTo pos (starEach [] (𝒳 i).env) := by intro _; rfl) (hpl : ∀ i, (backTo pos (starEach [e] (𝒳 i).env)).any (·.1) = false := by intro _; rfl) :
    DE 𝒳 G (.Call (.Name "sorted" p) [e] [⟨some "key", .Name y p2, kp⟩] pos) (evSortK Fn Fe) := by
  obtain ⟨t, pt, rt⟩ := ha
  refine ⟨tCKw (rSKF G.K G.cv 0 Fn) (tCons t tNil) (tCons (tC (V.ref 0)) tNil), fun i => ?_, fun c σ δ Q s w h => ?_⟩
  · obtain ⟨f, fd, ps, hn, F, hmy, hk, hb⟩ := (hF i).ex
    have q := pe_callBK (pos := pos) (p := p) (kws := [⟨some "key", .Name y p2, kp⟩]) (cr_sortedKeyF F hn ((hr i).mono hjk) hb) (hg i) (hm i) (by decide +kernel) (pa_cons (pt i) pa_nil (hs i)) (pk_cons (pe_glob (v := .ref f) (hgy i) hmy rfl hdb) pk_nil) (by decide) (by decide) (he i) (hpl i)
    have e2 : tCKw (rSKF G.K G.cv 0 Fn) (tCons t tNil) (tCons (tC (V.ref 0)) tNil) = tCKw (rSKF (𝒳 i).K G.cv f Fn) (tCons t tNil) (tCons (tC (V.ref f)) tNil) := by
      rw [hK i]
      funext σ H Q
      show t σ H (fun x H1 => rSKF G.K G.cv 0 Fn [x] [V.ref 0] H1 Q) = t σ H (fun x H1 => rSKF G.K G.cv f Fn [x] [V.ref f] H1 Q)
      congr 1
      funext x H1
      exact rSKF_any.symm
    rw [e2]
    exact q
  · refine rt c σ δ _ s w (wpM_mono (wpM_bind.mp h) (fun u W1 h1 x c1 hw e1 w1 r1 => ?_) fun _ _ q => q)
    subst hw
    match u, r1, h1 with
    | .d (.lst xs), r1, h1 =>
      obtain ⟨l, vs, rfl, hl, nl, rr⟩ := r1
      obtain ⟨ks, hk, q⟩ := sortK_out h1
      refine ⟨l, vs, c1, xs.map RV.d, ks, rfl, rfl, rfl, SqL.of hl, w1, repL_vs rr, by rw [List.length_map]; exact hk.1, fun i u k' hu hk' => ?_, fun c2 p e2 hw2 w2 hp => ?_⟩
      · rw [List.getElem?_map] at hu
        cases hx : xs[i]? with
        | none => rw [hx] at hu; simp at hu
        | some d =>
          rw [hx] at hu
          obtain rfl : RV.d d = u := by simpa using hu
          exact hk.2 i d k' hx hk'
      · obtain ⟨e3, w3⟩ := w2.lay (o := .lst ((byKey (vs.zip ks)).map (·.1))) hp
        refine q (.ref p) (c2.lay p (.lst ((byKey (vs.zip ks)).map (·.1)))) hw2 (e1.trans (e2.trans e3)) w3 ⟨p, _, rfl, upd_same, w2.layAv hp, ?_⟩
        exact RepL.mono e3 _ _ (rep_byKey (RepL.mono e2 _ _ rr))
    | .r _, _, h1 => exact h1.elim
    | .d .non, _, h1 => exact h1.elim
    | .d (.bl _), _, h1 => exact h1.elim
    | .d (.int _), _, h1 => exact h1.elim
    | .d (.str _), _, h1 => exact h1.elim
    | .d (.ty _), _, h1 => exact h1.elim
    | .d (.frz _), _, h1 => exact h1.elim
    | .d (.tup _), _, h1 => exact h1.elim
    | .d (.dK _), _, h1 => exact h1.elim
    | .d (.dT _), _, h1 => exact h1.elim
    | .d (.obj _ _), _, h1 => exact h1.elim
    | .d (.lam _ _), _, h1 => exact h1.elim
    | .d (.exc _ _ _ _ _), _, h1 => exact h1.elim
end
end DL
set_option Elab.async false
set_option linter.all false
set_option maxRecDepth 100000
set_option maxHeartbeats 4000000
/-! DL22: a display of a dict with one entry. -/
namespace DL
open PySem PySem.Spec PyProof.Rows L2 RZ
/-- the key of data -/
def keyD : RV → Option Key
  | .d (.int n) => some (.inl n)
  | .d (.str s) => some (.inr s)
  | _ => none
def pureD : RV → Option D
  | .d x => some x
  | _ => none
def evDisp1 (Fk Fv : Env → M RV) (δ : Env) : M RV := (Fk δ).bind fun k => (M.opt (keyD k)).bind fun q => (Fv δ).bind fun v => (M.opt (pureD v)).bind fun x => M.ret (.d (.dK [(q, x)]))
section
variable {c c' : Cf} {p : Addr} {o : HO}
abbrev Cf.un (c' : Cf) (A : Addr → Prop) : Cf := ⟨c'.H, c'.ren, c'.W, A⟩
theorem un_wk (e : Ext (c.plus p o) c') : Wk c' (c'.un c.Ao) := by
  refine ⟨fun b u hb n => ⟨hb, fun z => ?_⟩, fun _ _ => rfl, Nat.le_refl _⟩
  rcases z with z | z
  · exact n (.inl (by rw [e.ao]; exact .inl z))
  · exact n (.inr z)
theorem un_ext (h : c.H p = none) (e : Ext (c.plus p o) c') : Ext c (c'.un c.Ao) :=
  ⟨fun b u hb n => e.keep b u (lay_keep h b u hb) n, fun b u hb n => e.dead b u (lay_keep h b u hb) n, fun l hl => e.ren l hl, e.len, rfl⟩
theorem un_ok (e : Ext (c.plus p o) c') (w' : WOk c') : WOk (c'.un c.Ao) := by
  have ha : ∀ a, c.Ao a → c'.Ao a := fun a z => by rw [e.ao]; exact .inl z
  exact ⟨fun l u hl => (w'.obj l u hl).monoW (un_wk e) fun _ _ q => q, w'.inj, fun l u hl m z => w'.out l u hl m (ha _ z), fun a z => w'.ao a (ha a z)⟩
end
theorem RepF.monoW {c c' : Cf} (e : Wk c c') {fs : List (Str × D)} {ws : List (Str × V)} (h : RepF c fs ws) : RepF c' fs ws := Paired.mapP h fun _ _ q => ⟨q.1, Rep.monoW e _ _ q.2⟩
theorem hX {G : Gh} {c : Cf} {p : Addr} {o : HO} {x : DX} {W : Wd} (w : WOk c) (h : c.H p = none) (q : QE G c x W) : QE G (c.plus p o) x W := fun C d c' hw e w' r =>
  q C d (c'.un c.Ao) hw (un_ext h e) (un_ok e w') ⟨r.1, r.2.elim (fun ⟨dd, ws, h1, h2, n2, h3⟩ => .inl ⟨dd, ws, h1, h2, (un_wk e).av h2 n2, h3.monoW (un_wk e)⟩) .inr⟩
section
variable {ι : Type} {𝒳 : ι → Cx} {G : Gh} {ke v : Expr} {pos : Pos} {Fk Fv : Env → M RV}
theorem de_disp1 (hk : DE 𝒳 G ke Fk) (hv : DE 𝒳 G v Fv) : DE 𝒳 G (.Dict [some ke] [v] pos) (evDisp1 Fk Fv) := by
  obtain ⟨tk, pk, rk⟩ := hk
  obtain ⟨tv, pv, rv⟩ := hv
  refine ⟨_, fun i => pe_disp (pps_cons (pk i) (pv i) pps_nil) (by rfl) (by rfl) (fun z => by cases z) (by simp), fun c σ δ Q s w h => ?_⟩
  intro p hp
  have s1 : SOk σ δ (c.plus p (.dK [])) := s.monoW (Wk.plus w hp)
  refine rk (c.plus p (.dK [])) σ δ _ s1 (WOk.plus w hp) (wpM_mono (wpM_bind.mp h) (fun u W1 h1 x c1 hw e1 w1 r1 => ?_) fun _ _ q => hX w hp q)
  subst hw
  obtain ⟨q, hq, h2⟩ := wpM_opt (wpM_bind.mp h1)
  refine rv c1 σ δ _ (s1.mono e1) w1 (wpM_mono (wpM_bind.mp h2) (fun u2 W2 h3 y c2 hw2 e2 w2 r2 => ?_) fun _ _ q => (hX w hp q).mono e1)
  subst hw2
  obtain ⟨d, hd, h4⟩ := wpM_opt (wpM_bind.mp h3)
  have e12 := e1.trans e2
  have hx : x = kV q := by
    cases u with
    | r _ => cases hq
    | d u => cases u <;> first | (cases hq; exact r1) | cases hq
  refine ⟨plus_at w hp e12, [(q, y)], by rw [hx]; rfl, by simp, ?_⟩
  have hm := minus_none (c' := c2) (p := p) (A := c.Ao)
  obtain ⟨e3, w3⟩ := (minus_ok w hp e12 w2).lay (o := .dK [(q, y)]) hm
  have ry : Rep c2 d y := by
    cases u2 with
    | r _ => cases hd
    | d u2 => cases hd; exact r2
  have ry' : Rep ((c2.minus p c.Ao).lay p (.dK [(q, y)])) d y := Rep.mono e3 _ _ (Rep.monoW (minus_wk e12 w2) _ _ ry)
  have q5 := h4 (.ref p) ((c2.minus p c.Ao).lay p (.dK [(q, y)])) rfl ((minus_ext w hp e12).trans e3) w3 ⟨p, [(q, y)], rfl, .inl upd_same, (minus_ok w hp e12 w2).layAv hm, y, [], rfl, ry', rfl⟩
  have e6 : upd c2.H p (.dK (mergeK [] [(q, y)])) = ((c2.minus p c.Ao).lay p (.dK [(q, y)])).H := minus_upd (plus_at w hp e12)
  rw [e6]
  exact q5
end
end DL
set_option Elab.async false
set_option linter.all false
set_option maxRecDepth 100000
set_option maxHeartbeats 4000000
/-! DL23: enumerate of a tuple. -/
namespace PySem
open Sem (wp)
open AutoSeq1 (wpAny_loadPart')
theorem dl_meets_enum1 {v : Value} {o : Obj} {H : Heap → Prop} (B : Begins v o H) :
    Meets (Builtin.«enumerate.__new__» ⟨[.type "enumerate", v], []⟩) (fun _ R s => H s.heap ∧
      R (.ok (.ret (.ref (s.heap.push o).objs.size))) { s with heap := (s.heap.push o).push { cls := .type "enumerate", data := .fields #[.none, .bool false, .ref s.heap.objs.size, rawInt 0, .none, .none] } }) :=
  .of_wp fun prog w A R s h => by
    obtain ⟨hp, g, d, tk, os⟩ := s; obtain ⟨h1, h⟩ := h
    have hsub := sub_enumerate
    have q1 : ∀ {A' : Around} {E : Value → Shared → Prop} {Q : Value → Shared → Prop}, Q (.ref hp.objs.size) ⟨hp.push o, g, d, tk, os⟩ → wpAny (model prog w) A' (pyIter v) Q E ⟨hp, g, d, tk, os⟩ :=
      fun q => B.iter prog w _ _ ⟨hp, g, d, tk, os⟩ _ h1 q
    wp_walk using q1
    refine wpAny_stack_any fun st => wpAny_pure ?_
    split
    · rename_i c _ _ _ _ _
      cases (c == Value.type "enumerate")
      · wp_walk using q1
        exact ⟨_, rfl, h⟩
      · wp_walk using q1
        exact ⟨_, rfl, h⟩
    · wp_walk using q1
      exact ⟨_, rfl, h⟩
section
variable {prog : Program} {w : World} {A : Around} {E : Value → Shared → Prop} {s : Shared}
theorem dl_enum1 {v : Value} {o : Obj} {H : Heap → Prop} {Q : Value → Shared → Prop} (B : Begins v o H) (h1 : H s.heap)
    (h : ∀ h', IsEnum h' (s.heap.objs.size + 1) s.heap.objs.size 0 .none → h'.get? s.heap.objs.size = some o → h'.objs.size = s.heap.objs.size + 2 →
      (∀ b o, s.heap.get? b = some o → h'.get? b = some o) → Q (.ref (s.heap.objs.size + 1)) { s with heap := h' }) :
    wpAny (model prog w) A (call (.type "enumerate") [v]) Q E s := by
  refine callType_new F.called_enumerate (by decide) (F.typeCall_enumerate_1 _) (F.newCall_enumerate_1 _) (fun obj => F.args_object_init_2 obj _) F.entry_enumerate_new
    (dl_meets_enum1 B) ⟨h1, ?_⟩
  have hz : (s.heap.push o).objs.size = s.heap.objs.size + 1 := Heap.size_push ..
  show _ ∧ _
  rw [hz]
  have he : IsEnum ((s.heap.push o).push { cls := .type "enumerate", data := .fields #[.none, .bool false, .ref s.heap.objs.size, rawInt 0, .none, .none] }) (s.heap.objs.size + 1) s.heap.objs.size 0 .none := by
    have := Heap.get?_push_size (s.heap.push o) (o := { cls := .type "enumerate", data := .fields #[.none, .bool false, .ref s.heap.objs.size, rawInt 0, .none, .none] }) rfl
    rw [hz] at this; exact this
  refine ⟨⟨_, he, rfl⟩, h _ he (Heap.get?_push_of_some _ (Heap.get?_push_size _ B.free)) (by rw [Heap.size_push, hz]) fun b o x => Heap.get?_push_of_some _ (Heap.get?_push_of_some _ x)⟩
end
end PySem
namespace DL
open PySem PySem.Spec PyProof.Rows L2
/-- the tuple at a as it stands at each turn, each item in a new pair -/
def IteT (K : PySem.W.Frag) (a : Addr) : It :=
  ⟨fun i H => ∃ (xs : List V) (x : V), SqT K H a xs ∧ xs[i]? = some x, fun i H v H' => ∃ T x, v = .ref T ∧ H T = none ∧ H' = upd H T (.tup [.int (i : Nat), x]) ∧ ∀ xs, SqT K H a xs → xs[i]? = some x, fun i H => ∃ xs : List V, SqT K H a xs ∧ xs.length ≤ i⟩
theorem turn_enumT {P : Program} {w : PySem.World} {K : PySem.W.Frag} {elts : List Expr} {kk : Nat} {tpos : Pos} (a e it : Addr) :
    Turn P w K (.Tuple elts kk tpos) (IteT K a) [e, it] e (fun i h => (∃ old, IsEnum h e it ((i : Nat) : Int) old) ∧ h.IsTupleIter it a i ∧ e ≠ it ∧ e ≠ a ∧ a ≠ it) where
  mem := by simp
  obj := fun i h st b hb => by
    obtain ⟨⟨old, he⟩, ⟨o, ho, hc, hd⟩, _⟩ := st
    have e' : b = e ∨ b = it := by simpa using hb
    rcases e' with z | z
    · rw [z]; exact ⟨_, he, fun v q => nomatch q⟩
    · rw [z]; exact ⟨o, ho, fun v q => by rw [hd] at q; cases q⟩
  keep := fun i h h' st k => let ⟨⟨old, he⟩, hi, hne⟩ := st; ⟨⟨old, k e (by simp) _ he⟩, hi.at fun o q => k it (by simp) o q, hne⟩
  item := by
    intro X hP hw hK hc i pins s σ H E I hf st hg
    subst hP hw hK
    obtain ⟨⟨old, he⟩, hit, hne, hea, hai⟩ := st
    obtain ⟨xs, x, hq, hx⟩ := hg
    obtain ⟨its, rv, p, hz⟩ := I.tuple hq
    obtain ⟨u, hu, ru⟩ := rv.get hx
    have hel : e < s.heap.objs.size := Heap.lt_size he
    have hil : it < s.heap.objs.size := by obtain ⟨_, q, _⟩ := hit; exact Heap.lt_size q
    have Dr := Draws.tuple (prog := X.prog) (w := X.w) (A := X.A.in1) (show X.A.in1.handled = none from I.ok.hd hc) it a hai its.toArray
    have hi : i < its.toArray.size := by
      have := (List.getElem?_eq_some_iff.mp hu).1
      simpa using this
    refine wpAny_pyNext_enum_itemD Dr he ⟨hit, p⟩ hi hne (by simp; exact ⟨hne, hea⟩) fun u' h' tk hP ho hit' hT hsz hk => ?_
    have hu' : u' = u := by
      have hP' : its.toArray[i]? = some u' := hP
      rw [List.getElem?_toArray, hu] at hP'
      exact (Option.some.inj hP').symm
    subst hu'
    refine ⟨_, rfl, wpAny_letOwnedTupleGo_enum (s := { s with heap := h', toks := tk + 1 }) ho fun h'' he' sb => ?_⟩
    have hT2 : h''.get? s.heap.objs.size = some { cls := .type "tuple", data := .seq #[.int i tk, u'] } := (sb.2 _ (Nat.ne_of_gt hel)).trans hT
    have new : ObjOk X.prog X.w (upd H s.heap.objs.size (.tup [.int (i : Nat), x])) h'' s.heap.objs.size (.tup [.int (i : Nat), x]) :=
      ⟨by show 2 ≤ sizeLine; decide, [.int i tk, u'], .cons ⟨_, rfl⟩ (.cons ru .nil), ⟨_, hT2, rfl, _, rfl⟩⟩
    have I1 : Inv X pins σ (upd H s.heap.objs.size (.tup [.int (i : Nat), x])) { s with heap := h'', toks := tk + 1 } :=
      I.turnedNew (ch := [e, it]) (fun b ob hb q => (sb.2 b (fun z => hb (by simp [z]))).trans (hk b ob (fun z => hb (by simp [z])) (fun z => hb (by simp [z])) q)) hf (Nat.le_refl _) new
    refine ⟨.ref s.heap.objs.size, _, I1, rfl, ⟨_, x, rfl, I.hok.fresh (Nat.le_refl _), rfl, fun ys hy => by rw [I.tuple_inj hy hq]; exact hx⟩, ⟨⟨u', ?_⟩, hit'.1.at fun o q => (sb.2 it (Ne.symm hne)).trans q, hne, hea, hai⟩, fun b hb => ?_⟩
    · have e1 : ((i + 1 : Nat) : Int) = (i : Int) + 1 := by omega
      rw [e1]; exact he'
    · have hb' : b < s.heap.objs.size := by
        have e' : b = e ∨ b = it := by simpa using hb
        rcases e' with z | z
        · rw [z]; exact hel
        · rw [z]; exact hil
      rw [upd_ne (Nat.ne_of_lt hb')]
      exact (hf b hb).1
  done := by
    intro X hP hw hK hc i pins s σ H E I hf st hg
    subst hP hw hK
    obtain ⟨⟨old, he⟩, hit, hne, hea, hai⟩ := st
    obtain ⟨xs, hq, hx⟩ := hg
    obtain ⟨its, rv, p, hz⟩ := I.tuple hq
    obtain ⟨f0, f1, f2, f3, f4, f5⟩ := hf it (by simp)
    have hl := rv.length
    have hT : s.TypeIs (.ref e) "enumerate" := ⟨_, he, rfl⟩
    unfold pyNext
    refine wpAny_bind (wpAny_attempt (wpAny_callSpecial?_slot (name := Str.ofString "__next__") hT F.slot_enumerate_next
      (wpAny_call_entry F.slot_enumerate_next hT F.entry_enumerate_next ?_ (F.args_enumerate_next_1 _))))
    show wpAny _ _ (field (.ref e) 2 >>= _) _ _ _
    refine wpAny_bind (wpAny_field he rfl (x := .ref it) rfl ?_)
    refine wpAny_bind (wpAny_nextOf_tuple_end (items := its.toArray) (show X.A.in1.handled = none from I.ok.hd hc) hit p (by simp; omega) fun h' x he' hx' => ?_)
    obtain ⟨o, ho, hc'⟩ := hx'
    refine wpAny_bind (wpAny_isInstance (T := "StopIteration") (b := true) ⟨o, ho, hc'⟩ isSubtype_stop ?_)
    exact wpAny_pure ⟨rfl, I.turned (t' := s.toks) (fun b o hb q => he' b o hb q) f0 f1 f3 f4 f5⟩
  self := fun A i s Q E st h => let ⟨⟨_, he⟩, _⟩ := st; wpAny_pyIter_enum he h
def iEnumT (K : PySem.W.Frag) (ta : TA) : TI := fun σ H R => ta σ H fun vs H1 => ∃ a xs, vs = [.ref a] ∧ SqT K H1 a xs ∧ R (IteT K a) H1
theorem pi_enumT {X : Cx} {e : Expr} {ta : TA} {p pos tpos : Pos} {elts : List Expr} {kk : Nat} (hg : Gl X "enumerate") (hm : X.mg "enumerate" = none) (ha : PA X [e] ta) (hs : starEach [e] X.env = [(false, eval e X.env)] := by rfl) :
    PI X (.Tuple elts kk tpos) (.Call (.Name "enumerate" p) [e] [] pos) (iEnumT X.K ta) := by
  refine ⟨fun pins s σ H R I h => ?_⟩
  refine Call_ (ld_blt I hg hm boot_enumerate (PyProof.Rows.callWith_type1 (thn (ha.run pos pins s σ H _ I h) fun us s1 ⟨vs, H1, I1, r1, q1⟩ => ?_) hs rfl))
  obtain ⟨a, xs, ex, hq, q⟩ := q1
  subst ex
  cases r1 with
  | cons r rr =>
    cases rr
    cases r
    obtain ⟨its, rv, p', hz⟩ := I1.tuple hq
    have ht : s1.heap.IsTuple a its.toArray := p'
    have hal : a < s1.heap.objs.size := by obtain ⟨o, ho, _⟩ := id ht; exact Heap.lt_size ho
    refine dl_enum1 (begins_tuple a its.toArray) ht fun h' he hit hsz hk => wpAny_pyIter_enum he ?_
    have I2 : Inv X pins σ H1 { s1 with heap := h' } := I1.kept (t' := s1.toks) hk
    refine ⟨s1.heap.objs.size + 1, [s1.heap.objs.size + 1, s1.heap.objs.size], _, _, H1, rfl, I2, turn_enumT a (s1.heap.objs.size + 1) s1.heap.objs.size, ⟨⟨.none, he⟩, ⟨_, hit, rfl, rfl⟩, Nat.succ_ne_self _, Nat.ne_of_gt (Nat.lt_succ_of_lt hal), Nat.ne_of_lt hal⟩, fun b hb => ?_, q⟩
    have e' : b = s1.heap.objs.size + 1 ∨ b = s1.heap.objs.size := by simpa using hb
    have hle : s1.heap.objs.size ≤ b := by
      rcases e' with z | z
      · rw [z]; exact Nat.le_add_right _ _
      · rw [z]; exact Nat.le_refl _
    exact I1.fpOk hle (I1.hok.fresh hle)
theorem src_enumT {c : Cf} {K : PySem.W.Frag} {a : Addr} {xs : List D} (r : Rep c (.tup xs) (.ref a)) : Src c (IteT K a) (enumD xs) := by
  obtain ⟨a', vs, e, h, n, r⟩ := r
  cases e
  refine ⟨fun H => SqT K H a vs, YPair (fun i => some (.int (i : Nat))) (fun i => vs[i]?), ⟨fun i _ hi q => ?_, fun _ q => ⟨vs, q, by rw [enumD_len, repL_len r]; exact Nat.le_refl _⟩, fun i H v H' _ q y => ?_⟩, fun c2 k => SqT.of (k.at h n), fun i x H2 c2 d hd k w y => ?_⟩
  · have hi' : i < vs.length := by rw [enumD_len, repL_len r] at hi; exact hi
    exact ⟨vs, vs[i], q, by simp [hi']⟩
  · obtain ⟨T, x, h1, h2, h3, h4⟩ := y
    exact ⟨T, .int (i : Nat), x, h1, h2, h3, rfl, h4 vs q⟩
  · obtain ⟨T, p, q, rfl, hT, rfl, e1, e2⟩ := y
    dsimp only at e1 e2
    obtain ⟨x, hx, rfl⟩ := enumD_get hd
    obtain ⟨v, hv, rv⟩ := repL_get r hx
    rw [hv] at e2
    cases e2
    cases e1
    exact lay_pair w hT rfl (Rep.monoW k _ _ rv)
def itemsE2 : D → M (List D)
  | .lst xs => M.ret (enumD xs)
  | .tup xs => M.ret (enumD xs)
  | .str z => M.ret (enumD (charsOf z))
  | _ => M.fail
def evEnum2 (R : Env → M (List RV)) (δ : Env) : M (List D) := (R δ).bind fun us => match us with
  | [u] => (toD u).bind itemsE2
  | _ => M.fail
section
variable {ι : Type} {𝒳 : ι → Cx} {G : Gh} {e a : Expr} {pos : Pos} {R : Env → M (List RV)}
theorem di_enum2 {p tpos : Pos} {elts : List Expr} {kk : Nat} (hK : ∀ i, (𝒳 i).K = G.K) (hm : ∀ i, (𝒳 i).mg "enumerate" = none) (ha : DA 𝒳 G [a] R) (hg : ∀ i, Gl (𝒳 i) "enumerate" := by intro _; rfl) (hs : ∀ i, starEach [a] (𝒳 i).env = [(false, eval a (𝒳 i).env)] := by intro _; rfl) :
    DI 𝒳 G (.Tuple elts kk tpos) (.Call (.Name "enumerate" p) [a] [] pos) (evEnum2 R) := by
  obtain ⟨t, pt, rt⟩ := ha
  refine ⟨fun σ H R => iEnum G.K t σ H R ∨ iEnumT G.K t σ H R ∨ iEnumS t σ H R, fun i => ?_, fun c σ δ R' s w h => ?_⟩
  · have h1 := pi_enum (tpos := tpos) (elts := elts) (kk := kk) (p := p) (pos := pos) (hg i) (hm i) (pt i) (hs i)
    have h2 := pi_enumT (tpos := tpos) (elts := elts) (kk := kk) (p := p) (pos := pos) (hg i) (hm i) (pt i) (hs i)
    rw [hK i] at h1 h2
    exact PI.or h1 (PI.or h2 (pi_enumS (hg i) (hm i) (pt i) (hs i)))
  rcases args1 rt s w h with h1 | ⟨d, W2, h1, go⟩
  · exact .inl (h1 _)
  · cases d <;> try exact h1.elim
    case lst xs =>
      refine .inl (go _ fun x c2 hw e2 w2 r2 => ?_)
      have r2' := r2
      obtain ⟨a, vs, rfl, h2, _⟩ := r2'
      exact ⟨a, vs, rfl, SqL.of h2, h1 _ c2 hw e2 w2 (src_enum r2)⟩
    case tup xs =>
      refine .inr (.inl (go _ fun x c2 hw e2 w2 r2 => ?_))
      have r2' := r2
      obtain ⟨a, vs, rfl, h2, _⟩ := r2'
      exact ⟨a, vs, rfl, SqT.of h2, h1 _ c2 hw e2 w2 (src_enumT r2)⟩
    case str z =>
      refine .inr (.inr (go _ fun x c2 hw e2 w2 r2 => ?_))
      cases r2
      exact ⟨z, rfl, h1 _ c2 hw e2 w2 src_enumS⟩
end
section
variable {W : Wd} {E : DX → Wd → Prop} {δ : Env} {QD : List D → Wd → Prop} {R : Env → M (List RV)}
def enumA2 (us : List RV) : M (List D) := match us with
  | [u] => (toD u).bind itemsE2
  | _ => M.fail
@[simp] theorem w_enum2 : wpM (evEnum2 R δ) W QD E = wpM (R δ) W (kB enumA2 QD E) E := by
  unfold evEnum2
  rw [w_bind]
  congr 2
@[simp] theorem enumA2_l {xs : List D} : enumA2 [.d (.lst xs)] = M.ret (enumD xs) := (rfl)
@[simp] theorem enumA2_t {xs : List D} : enumA2 [.d (.tup xs)] = M.ret (enumD xs) := (rfl)
@[simp] theorem enumA2_s {z : Str} : enumA2 [.d (.str z)] = M.ret (enumD (charsOf z)) := (rfl)
@[simp] theorem itemsE2_l {xs : List D} : itemsE2 (.lst xs) = M.ret (enumD xs) := (rfl)
@[simp] theorem itemsE2_t {xs : List D} : itemsE2 (.tup xs) = M.ret (enumD xs) := (rfl)
@[simp] theorem w_enumA2_r {l : Nat} : wpM (enumA2 [.r l]) W QD E = frzM l (W[l]?) (kB itemsE2 QD E) W := by
  show wpM ((toD _).bind _) W QD E = _
  rw [w_bind, w_toD_r]
end
end DL
set_option Elab.async false
set_option linter.all false
set_option maxRecDepth 100000
set_option maxHeartbeats 4000000
/-! DL24: a, b = x, y through a tuple that nobody holds. -/
namespace DL
open PySem PySem.Spec PyProof.Rows L2
def nxP (δ' : Env) : M (Fl × Env) := M.ret (.nx, δ')
def evParT (n : Nat) (R : Env → M (List RV)) (T : List RV → Env → M Env) (δ : Env) : M (Fl × Env) := (R δ).bind fun us => (M.guard (us.length ≤ sizeLine ∧ us.length = n)).bind fun _ => (T us δ).bind nxP
section
variable {ι : Type} {𝒳 : ι → Cx} {G : Gh} {es ts : List Expr} {pos p1 p2 : Pos} {R : Env → M (List RV)} {vs : List Nat} {T : List RV → Env → M Env}
theorem ds_parT {n k : Nat} {k2} (hK : ∀ i, (𝒳 i).K = G.K) (hc : ∀ i, (𝒳 i).calm = true) (ha : DA 𝒳 G es R) (hg : DGs 𝒳 G ts vs T) (hn : ∀ i, (assignEach ts (𝒳 i).env).length = n := by intro _; rfl) (hst : ∀ i, (assignEach ts (𝒳 i).env).findIdx? (·.1) = none := by intro _; rfl)
    (hs : ∀ i, swapsWithSole [.Tuple ts k p1] (.Tuple es k2 p2) pos.line (𝒳 i).env = pure false := by intro _; rfl) (hw : ∀ i, swappedStores [.Tuple ts k p1] (.Tuple es k2 p2) (𝒳 i).env = pure none := by intro _; rfl)
    (h1 : ∀ i, (assignEach [.Tuple ts k p1] (𝒳 i).env).map (·.2) = [assign (.Tuple ts k p1) (𝒳 i).env] := by intro _; rfl) : DS 𝒳 G (.Assign [.Tuple ts k p1] (.Tuple es k2 p2) pos) (evParT n R T) := by
  obtain ⟨t, pt, rt⟩ := ha
  obtain ⟨g, pg, rg⟩ := hg
  refine ⟨tAsg (tTup t) (gTup G.K n g), fun i => ?_, fun c σ δ D s w h => ?_⟩
  · have h2 := pg_tup (pos := p1) (k := k) (hc i) (pg i) (hn i) (hst i)
    rw [hK i] at h2
    exact ps_asg (pe_tup (pt i)) h2 (hs i) (hw i) (h1 i)
  refine rt c σ δ _ s w (wpM_mono (wpM_bind.mp h) (fun us W1 h1 xs c1 hw e1 w1 r1 => ?_) fun _ _ q => q)
  subst hw
  obtain ⟨⟨hz, hl⟩, q⟩ := wpM_guard (wpM_bind.mp h1)
  have hlen := paired_len r1
  refine ⟨by rw [← hlen]; exact hz, fun p hp => ?_⟩
  obtain ⟨e2, w2⟩ := w1.lay (o := .tup xs) hp
  refine ⟨p, xs, rfl, SqT.of upd_same, by rw [← hlen]; exact hl, ?_⟩
  refine rg (c1.lay p (.tup xs)) xs us σ δ _ ((s.mono e1).mono e2) w2 (RepVs.mono e2 r1) ?_
  refine wpM_mono (wpM_bind.mp q) (fun δ' W3 h3 σ' c3 hw e3 w3 s3 _ _ => ?_) fun _ _ q => (q.mono e1).mono e2
  exact h3 σ' c3 hw ((e1.trans e2).trans e3) w3 s3
end
section
variable {W : Wd} {E : DX → Wd → Prop} {δ : Env} {QS' : Fl × Env → Wd → Prop} {R : Env → M (List RV)} {T : List RV → Env → M Env}
def parTF (n : Nat) (T : List RV → Env → M Env) (δ : Env) (us : List RV) : M (Fl × Env) := (M.guard (us.length ≤ sizeLine ∧ us.length = n)).bind fun _ => (T us δ).bind nxP
@[simp] theorem w_parT {n : Nat} : wpM (evParT n R T δ) W QS' E = wpM (R δ) W (kB (parTF n T δ) QS' E) E := propext wpM_bind
@[simp] theorem w_parTF {n : Nat} {us : List RV} : wpM (parTF n T δ us) W QS' E = ((us.length ≤ sizeLine ∧ us.length = n) ∧ wpM (T us δ) W (kB nxP QS' E) E) := by
  unfold parTF
  rw [w_bind, w_guard]
  show (_ ∧ wpM ((T us δ).bind nxP) W QS' E) = _
  rw [w_bind]
@[simp] theorem nxP_ap : nxP δ = M.ret (.nx, δ) := (rfl)
end
end DL
set_option Elab.async false
set_option linter.all false
set_option maxRecDepth 100000
set_option maxHeartbeats 4000000
/-! DL25: a comprehension over a list that may change later: the list is looked at at each turn. -/
namespace DL
open PySem PySem.Spec PyProof.Rows L2
theorem Walk.sup {J : It} {n : Nat} {α : Type} {Gd : α → Hp → Prop} {Y : α → Nat → Hp → V → Hp → Prop} (w : ∀ a, Walk J n (Gd a) (Y a)) : Walk J n (fun H => ∃ a, Gd a H) (fun i H x H' => ∃ a, Gd a H ∧ Y a i H x H') :=
  ⟨fun i H hi ⟨a, h⟩ => (w a).goes i H hi h, fun H ⟨a, h⟩ => (w a).stops H h, fun i H x H' hi ⟨a, h⟩ y => ⟨a, h, (w a).yields i H x H' hi h y⟩⟩
def SrcG (I : Wd → Prop) (c : Cf) (J : It) (ds : List D) : Prop := ∃ (Gd : Hp → Prop) (Y : Nat → Hp → V → Hp → Prop), Walk J ds.length Gd Y ∧ (∀ c2, Wk c c2 → WOk c2 → I c2.W → Gd c2.H) ∧
  ∀ (i : Nat) (x : V) (H2 : Hp) (c2 : Cf) (d : D), ds[i]? = some d → Wk c c2 → WOk c2 → I c2.W → Y i c2.H x H2 → ∃ c3, c3.H = H2 ∧ c3.W = c2.W ∧ Ext c2 c3 ∧ WOk c3 ∧ Rep c3 d x
abbrev IsAt (l : Nat) (xs : List D) (W : Wd) : Prop := W[l]? = some (.lst (xs.map RV.d))
section
variable {c : Cf} {K : PySem.W.Frag} {l : Nat} {xs : List D}
theorem isAt_rep {c2 : Cf} (hl : l < c.W.length) (k : Wk c c2) (w : WOk c2) (h : IsAt l xs c2.W) : ∃ vs, c2.H (c.ren l) = some (.lst vs) ∧ RepL c2 xs vs ∧ vs.length = xs.length := by
  obtain ⟨vs, e, r⟩ := w.obj l _ h
  rw [k.ren l hl] at e
  have r' : Paired (RepRV c2) (xs.map RV.d) vs := r
  refine ⟨vs, e, ?_, by rw [← paired_len r', List.length_map]⟩
  clear e h
  induction xs generalizing vs with
  | nil => cases r'; rfl
  | cons x xs ih =>
    cases r' with
    | cons a t => exact ⟨_, _, rfl, a, ih _ t t⟩
theorem srcG_list (hl : l < c.W.length) : SrcG (IsAt l xs) c (Itl K (c.ren l)) xs := by
  refine ⟨_, _, Walk.sup (α := { vs : List V // vs.length = xs.length }) (Gd := fun vs H => H (c.ren l) = some (.lst vs.1)) (Y := fun vs => YAt vs.1) (fun vs => ?_), fun c2 k w h => ?_, fun i x H2 c2 d hd k w h y => ?_⟩
  · have := walk_list (K := K) (a := c.ren l) (xs := vs.1)
    rw [vs.2] at this
    exact this.mono (fun H h => SqL.of h) fun i H x H' _ _ y => y
  · obtain ⟨vs, h1, _, h3⟩ := isAt_rep hl k w h
    exact ⟨⟨vs, h3⟩, h1⟩
  · obtain ⟨⟨vs, hv⟩, h1, rfl, hx⟩ := y
    obtain ⟨vs', h2, r, _⟩ := isAt_rep hl k w h
    dsimp only at h1 hx
    rw [h2] at h1
    cases h1
    obtain ⟨v, h4, rv⟩ := repL_get r hd
    rw [h4] at hx
    cases hx
    exact ⟨c2, rfl, rfl, Ext.refl c2, w, rv⟩
theorem srcG_enum (hl : l < c.W.length) : SrcG (IsAt l xs) c (Ite K (c.ren l)) (enumD xs) := by
  refine ⟨_, _, Walk.sup (α := { vs : List V // vs.length = xs.length }) (Gd := fun vs H => H (c.ren l) = some (.lst vs.1)) (Y := fun vs => YPair (fun i => some (.int (i : Nat))) (fun i => vs.1[i]?)) (fun vs => ?_), fun c2 k w h => ?_, fun i x H2 c2 d hd k w h y => ?_⟩
  · have := walk_enum (K := K) (a := c.ren l) (xs := vs.1)
    rw [vs.2] at this
    rw [enumD_len]
    exact this.mono (fun H h => SqL.of h) fun i H x H' _ _ y => y
  · obtain ⟨vs, h1, _, h3⟩ := isAt_rep hl k w h
    exact ⟨⟨vs, h3⟩, h1⟩
  · obtain ⟨⟨vs, hv⟩, h1, T, p, q, rfl, hT, rfl, e1, e2⟩ := y
    obtain ⟨vs', h2, r, _⟩ := isAt_rep hl k w h
    dsimp only at h1 e1 e2
    rw [h2] at h1
    cases h1
    obtain ⟨x, hx, rfl⟩ := enumD_get hd
    obtain ⟨v, hv', rv⟩ := repL_get r hx
    rw [hv'] at e2
    cases e2
    cases e1
    exact lay_pair w hT rfl rv
end
/-- where a list lies, what it holds, what is walked -/
def RdP (G : Gh) (wi : TI) (S : Env → M (Nat × List D × List D)) : Prop := ∀ (c : Cf) (σ : L2.St) (δ : Env) (R : It → Hp → Prop), SOk σ δ c → WOk c → wpM (S δ) c.W (fun p W' => ∀ J c', c'.W = W' → Ext c c' → WOk c' → SrcG (IsAt p.1 p.2.1) c' J p.2.2 → R J c'.H) (QE G c) → wi σ c.H R
def listAt (W : Wd) (l : Nat) : Option (List D) := match W[l]? with
  | some (.lst us) => pureL us
  | _ => none
theorem pureL_inv : ∀ {us : List RV} {ds : List D}, pureL us = some ds → us = ds.map RV.d
  | [], ds, h => by cases h; rfl
  | .d x :: us, ds, h => by
    rw [pureL] at h
    obtain ⟨r, hr, rfl⟩ := Option.map_eq_some_iff.mp h
    rw [pureL_inv hr]; rfl
  | .r _ :: us, ds, h => by cases h
theorem listAt_inv {W : Wd} {l : Nat} {ds : List D} (h : listAt W l = some ds) : IsAt l ds W := by
  unfold listAt at h
  split at h
  · rename_i us e
    rw [IsAt, e, pureL_inv h]
  · cases h
theorem listAt_of {W : Wd} {l : Nat} {ds : List D} (h : IsAt l ds W) : listAt W l = some ds := by
  unfold listAt
  rw [h]
  have : ∀ xs : List D, pureL (xs.map RV.d) = some xs := fun xs => by
    induction xs with
    | nil => rfl
    | cons x xs ih => show (pureL (xs.map RV.d)).map (x :: ·) = _; rw [ih]; rfl
  exact this ds
def evPk (f : List D → List D) (Fe : Env → M RV) (δ : Env) : M (Nat × List D × List D) := (Fe δ).bind fun u => match u with
  | .r l => M.look fun W => (listAt W l).map fun ds => (l, ds, f ds)
  | _ => M.fail
section
variable {ι : Type} {𝒳 : ι → Cx} {G : Gh} {e tg : Expr} {Fe : Env → M RV} {pos : Pos}
def DIP (𝒳 : ι → Cx) (G : Gh) (tg e : Expr) (S : Env → M (Nat × List D × List D)) : Prop := ∃ wi, (∀ i, PI (𝒳 i) tg e wi) ∧ RdP G wi S
theorem dip_list (hK : ∀ i, (𝒳 i).K = G.K) (h : DE 𝒳 G e Fe) : DIP 𝒳 G tg e (evPk id Fe) := by
  obtain ⟨t, p, r⟩ := h
  refine ⟨iList G.K t, fun i => by have h1 := pi_list (tg := tg) (p i); rw [hK i] at h1; exact h1, fun c σ δ R s w h => ?_⟩
  refine r c σ δ _ s w (wpM_mono (wpM_bind.mp h) (fun u W1 h1 x c1 hw e1 w1 r1 => ?_) fun _ _ q => q)
  subst hw
  cases u with
  | d _ => exact h1.elim
  | r l =>
    obtain ⟨rfl, hl⟩ := r1
    obtain ⟨q, hq, h2⟩ := wpM_look h1
    obtain ⟨ds, hd, rfl⟩ := Option.map_eq_some_iff.mp hq
    obtain ⟨vs, h3, _⟩ := isAt_rep hl (Wk.refl c1) w1 (listAt_inv hd)
    exact ⟨c1.ren l, rfl, ⟨vs, SqL.of h3⟩, h2 _ c1 rfl e1 w1 (srcG_list hl)⟩
theorem dip_enum {a : Expr} {p tpos : Pos} {elts : List Expr} {kk : Nat} (hK : ∀ i, (𝒳 i).K = G.K) (hm : ∀ i, (𝒳 i).mg "enumerate" = none) (h : DE 𝒳 G a Fe) (hg : ∀ i, Gl (𝒳 i) "enumerate" := by intro _; rfl) (hs : ∀ i, starEach [a] (𝒳 i).env = [(false, eval a (𝒳 i).env)] := by intro _; rfl) (hs0 : ∀ i, starEach [a] (𝒳 i).env = (false, eval a (𝒳 i).env) :: starEach [] (𝒳 i).env := by intro _; rfl) :
    DIP 𝒳 G (.Tuple elts kk tpos) (.Call (.Name "enumerate" p) [a] [] pos) (evPk enumD Fe) := by
  obtain ⟨t, pt, r⟩ := h
  refine ⟨iEnum G.K (tCons t tNil), fun i => ?_, fun c σ δ R s w h => ?_⟩
  · have h1 := pi_enum (tpos := tpos) (elts := elts) (kk := kk) (p := p) (pos := pos) (hg i) (hm i) (pa_cons (pt i) pa_nil (hs0 i)) (hs i)
    rw [hK i] at h1
    exact h1
  refine r c σ δ _ s w (wpM_mono (wpM_bind.mp h) (fun u W1 h1 x c1 hw e1 w1 r1 => ?_) fun _ _ q => q)
  subst hw
  cases u with
  | d _ => exact h1.elim
  | r l =>
    obtain ⟨rfl, hl⟩ := r1
    obtain ⟨q, hq, h2⟩ := wpM_look h1
    obtain ⟨ds, hd, rfl⟩ := Option.map_eq_some_iff.mp hq
    obtain ⟨vs, h3, _⟩ := isAt_rep hl (Wk.refl c1) w1 (listAt_inv hd)
    exact ⟨c1.ren l, vs, rfl, SqL.of h3, h2 _ c1 rfl e1 w1 (srcG_enum hl)⟩
end
/-- still there -/
noncomputable def stays (l : Nat) (xs : List D) : M Unit := fun W => by
  classical exact if IsAt l xs W then some (.ok (), W) else none
theorem w_stays {l : Nat} {xs : List D} {W : Wd} {Q : Unit → Wd → Prop} {E : DX → Wd → Prop} : wpM (stays l xs) W Q E = (IsAt l xs W ∧ Q () W) := by
  unfold wpM stays
  by_cases h : IsAt l xs W
  · rw [if_pos h]; exact propext ⟨fun q => ⟨h, q⟩, fun q => q.2⟩
  · rw [if_neg h]; exact propext ⟨fun q => q.elim, fun q => h q.1⟩
noncomputable def goLcP (l : Nat) (ys : List D) (mk : Bool) (T : RV → Env → M Env) (C : Env → M Bool) (E : Env → M RV) (δ : Env) : List D → List RV → M RV
  | [], acc => (stays l ys).bind fun _ => newL mk acc
  | d :: ds, acc => (stays l ys).bind fun _ => (T (.d d) δ).bind fun δ1 => (C δ1).bind fun b => if b then (E δ1).bind fun v => (M.guard (acc.length < sizeLine)).bind fun _ => goLcP l ys mk T C E δ ds (acc ++ [v]) else goLcP l ys mk T C E δ ds acc
noncomputable def evLcP (mk : Bool) (own : List Nat) (S : Env → M (Nat × List D × List D)) (T : RV → Env → M Env) (C : Env → M Bool) (E : Env → M RV) (δ : Env) : M RV := (S δ).bind fun p => noEr (goLcP p.1 p.2.1 mk T C E (wipeD δ own) p.2.2 [])
section
variable {ι : Type} {𝒳 : ι → Cx} {G : Gh} {elt tg iter : Expr} {ifs : List Expr} {scope : Scope} {own : List (Str × Nat)} {pos spos : Pos} {S : Env → M (Nat × List D × List D)} {T : RV → Env → M Env} {C : Env → M Bool} {E : Env → M RV} {vs : List Nat}
theorem goLcP_at {l : Nat} {ys : List D} {mk : Bool} {δ : Env} {ds : List D} {acc : List RV} {W : Wd} {Q : RV → Wd → Prop} {Er : DX → Wd → Prop} (h : wpM (goLcP l ys mk T C E δ ds acc) W Q Er) : IsAt l ys W := by
  cases ds with
  | nil => exact ((w_stays (Q := _)).mp (wpM_bind.mp h)).1
  | cons d ds => exact ((w_stays (Q := _)).mp (wpM_bind.mp h)).1
theorem rd_lcP {mk : Bool} {wi : TI} {g : TG} {tt : TT} {te : TE} (own : List Nat) (hi : RdP G wi S) (hg : RdG G.calm g vs T) (ht : RdT G.calm tt C) (he : RdE G.calm te E) (hsub : ∀ k, k ∈ vs → k ∈ own) :
    RdE G (tLc wi g tt te own) (evLcP mk own S T C E) := by
  intro c σ δ Q s w h
  refine hi c σ δ _ s w (wpM_mono (wpM_bind.mp h) (fun p W1 h1 J c1 hw e1 w1 src => ?_) fun _ _ q => q)
  subst hw
  obtain ⟨l, ys, ds⟩ := p
  have h1 := wpM_noEr (E' := fun _ _ => False) h1
  intro D hD
  obtain ⟨Gd, Y, wk, hG, hY⟩ := src
  refine lc_it wk (fun i H => ∃ c2 us acc, H = upd c2.H D (.lst acc) ∧ c2.H D = none ∧ Ext c1 c2 ∧ WOk c2 ∧ RepVs c2 us acc ∧ wpM (goLcP l ys mk T C E (wipeD δ own) (ds.drop i) us) c2.W (QV c2 Q) (fun _ _ => False)) ?_ ?_ ?_ ?_
  · exact ⟨c1, [], [], rfl, hD, Ext.refl c1, w1, .nil, wpM_mono h1 (fun _ _ q => q.mono e1) fun _ _ q => q.elim⟩
  · rintro i H _ ⟨c2, us, acc, rfl, hd, e2, w2, r2, h2⟩
    exact hG (c2.plus D (.lst acc)) (e2.wk.trans (Wk.plus w2 hd)) (w2.plus hd) (goLcP_at h2)
  · rintro i x H H' hi ⟨c2, us, acc, rfl, hd, e2, w2, r2, h2⟩ y
    have hst := goLcP_at h2
    rw [List.drop_eq_getElem_cons hi] at h2
    have h2 := ((w_stays (Q := _)).mp (wpM_bind.mp h2)).2
    have wp : WOk (c2.plus D (.lst acc)) := w2.plus hd
    obtain ⟨c3, rfl, hw3, e3, w3, r3⟩ := hY i x H' (c2.plus D (.lst acc)) _ (List.getElem?_eq_getElem hi) (e2.wk.trans (Wk.plus w2 hd)) wp hst y
    have hw3' : c2.W = c3.W := hw3.symm
    rw [hw3'] at h2
    have s3 : SOk (wipe σ own) (wipeD δ own) c3 := ((((s.mono e1).mono e2).monoW (Wk.plus w2 hd)).mono e3).wipe own
    refine hg c3 x (.d ds[i]) _ _ _ s3 w3 (show RepRV c3 (.d _) x from r3) (wpM_mono (wpM_bind.mp h2) (fun δ4 W4 h4 σ4 c4 hw e4 w4 s4 l4 k4 => ?_) fun _ _ q => q.elim)
    subst hw
    refine ⟨?_, ?_⟩
    · rw [wipe_eq l4 fun k hk => k4 k fun z => hk (hsub k z)]
      exact wipe_eq (wipe_length _ _) fun k hk => wipe_out hk
    refine ht c4 σ4 δ4 _ s4 w4 (wpM_mono (wpM_bind.mp h4) (fun b W5 h5 c5 hw e5 w5 => ?_) fun _ _ q => q.elim)
    subst hw
    have e35 := (e3.trans e4).trans e5
    cases b with
    | false =>
      show (if false = true then _ else _)
      rw [if_neg (by decide)]
      refine ⟨c5.minus D c2.Ao, us, acc, minus_upd' (plus_at w2 hd e35), minus_none, e2.trans (minus_ext w2 hd e35), minus_ok w2 hd e35 w5, RepVs.mono (minus_ext w2 hd e35) r2, wpM_mono h5 (fun _ _ q => QV.mono (minus_ext w2 hd e35) q) fun _ _ q => q.elim⟩
    | true =>
      show (if true = true then _ else _)
      rw [if_pos rfl]
      refine he c5 σ4 δ4 _ (s4.mono e5) w5 (wpM_mono (wpM_bind.mp h5) (fun u W6 h6 y6 c6 hw e6 w6 r6 => ?_) fun _ _ q => q.elim)
      subst hw
      have e36 := e35.trans e6
      obtain ⟨hz, h7⟩ := wpM_guard (wpM_bind.mp h6)
      have hz' : acc.length < sizeLine := by rw [← paired_len r2]; exact hz
      refine ⟨acc, plus_at w2 hd e36, hz', c6.minus D c2.Ao, us ++ [u], acc ++ [y6], minus_upd (plus_at w2 hd e36), minus_none, e2.trans (minus_ext w2 hd e36), minus_ok w2 hd e36 w6, ?_, wpM_mono h7 (fun _ _ q => QV.mono (minus_ext w2 hd e36) q) fun _ _ q => q.elim⟩
      exact paired_app (RepVs.mono (minus_ext w2 hd e36) r2) (.cons (r6.monoW (minus_wk e36 w6)) .nil)
  · rintro H ⟨c2, us, acc, rfl, hd, e2, w2, r2, h2⟩
    rw [List.drop_length] at h2
    exact newL_ok w2 r2 ((w_stays (Q := _)).mp (wpM_bind.mp h2)).2 D hd
theorem de_lcP (mk : Bool) (N : List Str) (sc : Scope) (own : List (Str × Nat)) (ok : BlkOk N sc scope own) (hsub : ∀ k, k ∈ vs → k ∈ own.map (·.2)) (hc : ∀ i, (𝒳 i).calm = true) (hN : ∀ i, (𝒳 i).N.Nodup)
    (hi : DIP 𝒳 G tg iter S) (hg : DG (blkF 𝒳 scope) G.calm tg vs T) (ht : DTs (blkF 𝒳 scope) G.calm ifs C) (he : DE (blkF 𝒳 scope) G.calm elt E)
    (eN : ∀ i, (𝒳 i).N = N := by intro _; rfl) (es : ∀ i, (𝒳 i).env.scope = sc := by intro _; rfl) (hs : ∀ i, ∀ x, foldedSetIterable iter (𝒳 i).env x = pure x := by intro _ _; rfl) : DE 𝒳 G (.ListComp elt [⟨tg, iter, ifs, 0⟩] scope pos) (evLcP mk (own.map (·.2)) S T C E) := by
  obtain ⟨wi, pi, ri⟩ := hi
  obtain ⟨g, pg, rg⟩ := hg
  obtain ⟨tt, pt, rt⟩ := ht
  obtain ⟨te, pe, re⟩ := he
  exact ⟨_, fun i => pe_lc (hc i) (hN i) (pi i) (by rw [eN i, es i]; exact ok) (fun s H C cl fp => pg (i, s, H, C, cl, fp)) (fun s H C cl fp => pt (i, s, H, C, cl, fp)) (fun s H C cl fp => pe (i, s, H, C, cl, fp)) (hs i), rd_lcP _ ri rg rt re hsub⟩
/-- name = [..] -/
theorem ds_setLcP (mk : Bool) (N : List Str) (sc : Scope) (own : List (Str × Nat)) (i : Nat) {y : Str} {py : Pos} (ok : BlkOk N sc scope own) (hsub : ∀ k, k ∈ vs → k ∈ own.map (·.2)) (hc : ∀ i, (𝒳 i).calm = true) (hN : ∀ i, (𝒳 i).N.Nodup)
    (hi : DIP 𝒳 G tg iter S) (hg : DG (blkF 𝒳 scope) G.calm tg vs T) (ht : DTs (blkF 𝒳 scope) G.calm ifs C) (he : DE (blkF 𝒳 scope) G.calm elt E)
    (hy : N[i]? = some y) (hyl : sc.names.lookup y = some .local) (hsw : ∀ i, swapsWith (.ListComp elt [⟨tg, iter, ifs, 0⟩] scope pos) (some (.Name y py)) spos.line (𝒳 i).env = pure true)
    (eN : ∀ i, (𝒳 i).N = N := by intro _; rfl) (es : ∀ i, (𝒳 i).env.scope = sc := by intro _; rfl) (hs : ∀ i, ∀ x, foldedSetIterable iter (𝒳 i).env x = pure x := by intro _ _; rfl) :
    DS 𝒳 G (.Assign [.Name y py] (.ListComp elt [⟨tg, iter, ifs, 0⟩] scope pos) spos) (evAsg (evLcP mk (own.map (·.2)) S T C E) (gtName i)) := by
  obtain ⟨wi, pi, ri⟩ := hi
  obtain ⟨g, pg, rg⟩ := hg
  obtain ⟨tt, pt, rt⟩ := ht
  obtain ⟨te, pe, re⟩ := he
  refine ⟨_, fun k => ps_setLc (hc k) (hN k) (by rw [eN k]; exact hy) (by rw [es k]; exact hyl) (hsw k) (pi k) (by rw [eN k, es k]; exact ok) (fun s H C cl fp => pg (k, s, H, C, cl, fp)) (fun s H C cl fp => pt (k, s, H, C, cl, fp)) (fun s H C cl fp => pe (k, s, H, C, cl, fp)) (hs k), ?_⟩
  refine RdE.asg (vs := [i]) (rd_lcP _ ri rg rt re hsub) ?_
  intro c v u σ δ Q s w r h
  refine h (σ.set i (some v)) c rfl (Ext.refl c) w (s.set i r) (by rw [List.length_set]) fun k hk => ?_
  rw [List.getElem?_set_ne (fun z => hk (by rw [z]; exact List.mem_singleton_self k))]
end
section
variable {W : Wd} {E : DX → Wd → Prop} {δ : Env} {Q : RV → Wd → Prop} {QN : Nat × List D × List D → Wd → Prop} {S : Env → M (Nat × List D × List D)} {T : RV → Env → M Env} {C : Env → M Bool} {F : Env → M RV} {f : List D → List D}
noncomputable def lcFP (mk : Bool) (T : RV → Env → M Env) (C : Env → M Bool) (Ee : Env → M RV) (δ : Env) (p : Nat × List D × List D) : M RV := noEr (goLcP p.1 p.2.1 mk T C Ee δ p.2.2 [])
@[simp] theorem w_lcP {mk : Bool} {own : List Nat} : wpM (evLcP mk own S T C F δ) W Q E = wpM (S δ) W (kB (lcFP mk T C F (wipeD δ own)) Q E) E := propext wpM_bind
def pkA (f : List D → List D) (u : RV) : M (Nat × List D × List D) := match u with
  | .r l => M.look fun W => (listAt W l).map fun ds => (l, ds, f ds)
  | _ => M.fail
@[simp] theorem w_evPk : wpM (evPk f F δ) W QN E = wpM (F δ) W (kB (pkA f) QN E) E := propext wpM_bind
theorem w_pkA {l : Nat} {ds : List D} (h : IsAt l ds W) : wpM (pkA f (.r l)) W QN E = QN (l, ds, f ds) W := by
  unfold pkA
  rw [w_look, listAt_of h]
  rfl
end
end DL
set_option Elab.async false
set_option linter.all false
set_option maxRecDepth 100000
set_option maxHeartbeats 4000000
/-! DL26: comprehensions with two fors. -/
namespace DL
open PySem PySem.Spec PyProof.Rows L2
def goIn (T : RV → Env → M Env) (C : Env → M Bool) (E : Env → M RV) (δ : Env) : List D → List RV → M (List RV)
  | [], acc => M.ret acc
  | d :: ds, acc => (T (.d d) δ).bind fun δ1 => (C δ1).bind fun b => if b then (E δ1).bind fun v => (M.guard (acc.length < sizeLine)).bind fun _ => goIn T C E δ ds (acc ++ [v]) else goIn T C E δ ds acc
def goLc2 (mk : Bool) (T : RV → Env → M Env) (C : Env → M Bool) (vs1 : List Nat) (S1 : Env → M (List D)) (T1 : RV → Env → M Env) (C1 : Env → M Bool) (E : Env → M RV) (δ : Env) : List D → List RV → M RV
  | [], acc => newL mk acc
  | d :: ds, acc => (T (.d d) δ).bind fun δ1 => (C δ1).bind fun b => if b then (S1 δ1).bind fun ds1 => (goIn T1 C1 E (wipeD δ1 vs1) ds1 acc).bind fun acc' => goLc2 mk T C vs1 S1 T1 C1 E δ ds acc' else goLc2 mk T C vs1 S1 T1 C1 E δ ds acc
def evLc2 (mk : Bool) (own vs1 : List Nat) (S : Env → M (List D)) (T : RV → Env → M Env) (C : Env → M Bool) (S1 : Env → M (List D)) (T1 : RV → Env → M Env) (C1 : Env → M Bool) (E : Env → M RV) (δ : Env) : M RV := (S δ).bind fun ds => noEr (goLc2 mk T C vs1 S1 T1 C1 E (wipeD δ own) ds [])
section
variable {ι : Type} {𝒳 : ι → Cx} {G : Gh} {elt tg iter tg1 iter1 : Expr} {ifs ifs1 : List Expr} {scope : Scope} {own : List (Str × Nat)} {pos spos : Pos} {S S1 : Env → M (List D)} {T T1 : RV → Env → M Env} {C C1 : Env → M Bool} {E : Env → M RV} {vs vs1 : List Nat}
/-- a walk by its invariant -/
theorem walk_by {J : It} {n : Nat} {Gd : Hp → Prop} {Y : Nat → Hp → V → Hp → Prop} (w : Walk J n Gd Y) {H1 : Hp} {Qd : Hp → Prop} {St : (Hp → Prop) → V → Hp → Prop} (Pv : Nat → Hp → Prop) (h0 : Pv 0 H1) (hG : ∀ i H, i ≤ n → Pv i H → Gd H)
    (hs : ∀ i x H H', i < n → Pv i H → Y i H x H' → St (Pv (i + 1)) x H') (hd : ∀ H, Pv n H → Qd H) :
    ∃ W : Nat → Nat → Hp → Prop, (∃ m, W 0 m H1) ∧ ∀ i m H, W i m H → (J.stop i H ∧ Qd H) ∨ (J.go i H ∧ ∃ Nx : Hp → Prop, (∀ H', Nx H' → ∃ m', m' < m ∧ W (i + 1) m' H') ∧ ∀ x H', J.yld i H x H' → St Nx x H') := by
  refine ⟨fun i m H => m = n - i ∧ i ≤ n ∧ Pv i H, ⟨n, by simp, Nat.zero_le _, h0⟩, ?_⟩
  rintro i m H ⟨rfl, hi, p⟩
  have q := hG i H hi p
  by_cases hlt : i < n
  · refine .inr ⟨w.goes i H hlt q, Pv (i + 1), fun H' p' => ⟨n - (i + 1), by omega, rfl, hlt, p'⟩, fun x H' y => hs i x H H' hlt p (w.yields i H x H' hlt q y)⟩
  · have e : i = n := by omega
    subst e
    exact .inl ⟨w.stops H q, hd H p⟩
theorem rd_lc2 {mk : Bool} {wi wi1 : TI} {g g1 : TG} {tt tt1 : TT} {te : TE} (own : List Nat) (hi : RdI G wi S) (hg : RdG G.calm g vs T) (ht : RdT G.calm tt C) (hi1 : RdI G.calm wi1 S1) (hg1 : RdG G.calm g1 vs1 T1) (ht1 : RdT G.calm tt1 C1) (he : RdE G.calm te E) (hsub : ∀ k, k ∈ vs → k ∈ own) :
    RdE G (tLc2 wi g tt wi1 g1 tt1 te own vs1) (evLc2 mk own vs1 S T C S1 T1 C1 E) := by
  intro c σ δ Q s w h
  refine hi c σ δ _ s w (wpM_mono (wpM_bind.mp h) (fun ds W1 h1 J c1 hw e1 w1 src => ?_) fun _ _ q => q)
  subst hw
  have h1 := wpM_noEr (E' := fun _ _ => False) h1
  intro D hD
  obtain ⟨Gd, Y, wk, hG, hY⟩ := src
  refine walk_by wk (fun i H => ∃ c2 us acc, H = upd c2.H D (.lst acc) ∧ c2.H D = none ∧ Ext c1 c2 ∧ WOk c2 ∧ RepVs c2 us acc ∧ wpM (goLc2 mk T C vs1 S1 T1 C1 E (wipeD δ own) (ds.drop i) us) c2.W (QV c2 Q) (fun _ _ => False)) ?_ ?_ ?_ ?_
  · exact ⟨c1, [], [], rfl, hD, Ext.refl c1, w1, .nil, wpM_mono h1 (fun _ _ q => q.mono e1) fun _ _ q => q.elim⟩
  · rintro i H _ ⟨c2, us, acc, rfl, hd, e2, w2, r2, _⟩
    exact hG (c2.plus D (.lst acc)) (e2.wk.trans (Wk.plus w2 hd))
  · rintro i x H H' hi ⟨c2, us, acc, rfl, hd, e2, w2, r2, h2⟩ y
    rw [List.drop_eq_getElem_cons hi] at h2
    have wp : WOk (c2.plus D (.lst acc)) := w2.plus hd
    obtain ⟨c3, rfl, hw3, e3, w3, r3⟩ := hY i x H' (c2.plus D (.lst acc)) _ (List.getElem?_eq_getElem hi) (e2.wk.trans (Wk.plus w2 hd)) wp y
    have hw3' : c2.W = c3.W := hw3.symm
    rw [hw3'] at h2
    have s3 : SOk (wipe σ own) (wipeD δ own) c3 := ((((s.mono e1).mono e2).monoW (Wk.plus w2 hd)).mono e3).wipe own
    refine hg c3 x (.d ds[i]) _ _ _ s3 w3 (show RepRV c3 (.d _) x from r3) (wpM_mono (wpM_bind.mp h2) (fun δ4 W4 h4 σ4 c4 hw e4 w4 s4 l4 k4 => ?_) fun _ _ q => q.elim)
    subst hw
    refine ⟨?_, ?_⟩
    · rw [wipe_eq l4 fun k hk => k4 k fun z => hk (hsub k z)]
      exact wipe_eq (wipe_length _ _) fun k hk => wipe_out hk
    refine ht c4 σ4 δ4 _ s4 w4 (wpM_mono (wpM_bind.mp h4) (fun b W5 h5 c5 hw e5 w5 => ?_) fun _ _ q => q.elim)
    subst hw
    have e35 := (e3.trans e4).trans e5
    cases b with
    | false =>
      show (if false = true then _ else _)
      rw [if_neg (by decide)]
      refine ⟨c5.minus D c2.Ao, us, acc, minus_upd' (plus_at w2 hd e35), minus_none, e2.trans (minus_ext w2 hd e35), minus_ok w2 hd e35 w5, RepVs.mono (minus_ext w2 hd e35) r2, wpM_mono h5 (fun _ _ q => QV.mono (minus_ext w2 hd e35) q) fun _ _ q => q.elim⟩
    | true =>
      show (if true = true then _ else _)
      rw [if_pos rfl]
      refine hi1 c5 σ4 δ4 _ (s4.mono e5) w5 (wpM_mono (wpM_bind.mp h5) (fun ds1 W6 h6 J1 c6 hw e6 w6 src1 => ?_) fun _ _ q => q.elim)
      subst hw
      have e36 := e35.trans e6
      obtain ⟨Gd1, Y1, wk1, hG1, hY1⟩ := src1
      have s6 : SOk σ4 δ4 c6 := (s4.mono e5).mono e6
      refine walk_by wk1 (fun j H => ∃ c7 us' acc', H = upd c7.H D (.lst acc') ∧ c7.H D = none ∧ Ext c2 c7 ∧ Wk c6 (c7.plus D (.lst acc')) ∧ WOk c7 ∧ RepVs c7 us' acc' ∧ wpM (goIn T1 C1 E (wipeD δ4 vs1) (ds1.drop j) us') c7.W (fun us2 W' => wpM (goLc2 mk T C vs1 S1 T1 C1 E (wipeD δ own) (ds.drop (i + 1)) us2) W' (QV c2 Q) (fun _ _ => False)) (fun _ _ => False)) ?_ ?_ ?_ ?_
      · refine ⟨c6.minus D c2.Ao, us, acc, minus_upd' (plus_at w2 hd e36), minus_none, minus_ext w2 hd e36, (minus_wk e36 w6).trans (Wk.plus (minus_ok w2 hd e36 w6) minus_none), minus_ok w2 hd e36 w6, RepVs.mono (minus_ext w2 hd e36) r2, wpM_bind.mp h6⟩
      · rintro j H _ ⟨c7, us', acc', rfl, hd7, e7, k7, w7, r7, _⟩
        exact hG1 (c7.plus D (.lst acc')) k7
      · rintro j x H H' hj ⟨c7, us', acc', rfl, hd7, e7, k7, w7, r7, h7⟩ y
        rw [List.drop_eq_getElem_cons hj] at h7
        have wp7 : WOk (c7.plus D (.lst acc')) := w7.plus hd7
        obtain ⟨c8, rfl, hw8, e8, w8, r8⟩ := hY1 j x H' (c7.plus D (.lst acc')) _ (List.getElem?_eq_getElem hj) k7 wp7 y
        have hw8' : c7.W = c8.W := hw8.symm
        rw [hw8'] at h7
        have s8 : SOk (wipe σ4 vs1) (wipeD δ4 vs1) c8 := ((s6.monoW k7).mono e8).wipe vs1
        refine hg1 c8 x (.d ds1[j]) _ _ _ s8 w8 (show RepRV c8 (.d _) x from r8) (wpM_mono (wpM_bind.mp h7) (fun δ9 W9 h9 σ9 c9 hw e9 w9 s9 l9 k9 => ?_) fun _ _ q => q.elim)
        subst hw
        refine ⟨?_, ?_⟩
        · rw [wipe_eq l9 fun k hk => k9 k hk]
          exact wipe_eq (wipe_length _ _) fun k hk => wipe_out hk
        refine ht1 c9 σ9 δ9 _ s9 w9 (wpM_mono (wpM_bind.mp h9) (fun b WA hA cA hw eA wA => ?_) fun _ _ q => q.elim)
        subst hw
        have e8A := (e8.trans e9).trans eA
        cases b with
        | false =>
          show (if false = true then _ else _)
          rw [if_neg (by decide)]
          exact ⟨cA.minus D c7.Ao, us', acc', minus_upd' (plus_at w7 hd7 e8A), minus_none, e7.trans (minus_ext w7 hd7 e8A), (k7.trans (e8A.wk)).trans ((minus_wk e8A wA).trans (Wk.plus (minus_ok w7 hd7 e8A wA) minus_none)), minus_ok w7 hd7 e8A wA, RepVs.mono (minus_ext w7 hd7 e8A) r7, hA⟩
        | true =>
          show (if true = true then _ else _)
          rw [if_pos rfl]
          refine he cA σ9 δ9 _ (s9.mono eA) wA (wpM_mono (wpM_bind.mp hA) (fun u WB hB yB cB hw eB wB rB => ?_) fun _ _ q => q.elim)
          subst hw
          have e8B := e8A.trans eB
          obtain ⟨hz, hC⟩ := wpM_guard (wpM_bind.mp hB)
          have hz' : acc'.length < sizeLine := by rw [← paired_len r7]; exact hz
          refine ⟨acc', plus_at w7 hd7 e8B, hz', cB.minus D c7.Ao, us' ++ [u], acc' ++ [yB], minus_upd (plus_at w7 hd7 e8B), minus_none, e7.trans (minus_ext w7 hd7 e8B), (k7.trans (e8B.wk)).trans ((minus_wk e8B wB).trans (Wk.plus (minus_ok w7 hd7 e8B wB) minus_none)), minus_ok w7 hd7 e8B wB, ?_, hC⟩
          exact paired_app (RepVs.mono (minus_ext w7 hd7 e8B) r7) (.cons (rB.monoW (minus_wk e8B wB)) .nil)
      · rintro H ⟨c7, us', acc', rfl, hd7, e7, k7, w7, r7, h7⟩
        rw [List.drop_length] at h7
        exact ⟨c7, us', acc', rfl, hd7, e2.trans e7, w7, r7, wpM_mono h7 (fun _ _ q => QV.mono e7 q) fun _ _ q => q.elim⟩
  · rintro H ⟨c2, us, acc, rfl, hd, e2, w2, r2, h2⟩
    rw [List.drop_length] at h2
    exact newL_ok w2 r2 h2 D hd
theorem de_lc2 (mk : Bool) (N : List Str) (sc : Scope) (own : List (Str × Nat)) (ok : BlkOk N sc scope own) (hsub : ∀ k, k ∈ vs → k ∈ own.map (·.2)) (hsub1 : ∀ k ∈ vs1, k ∈ own.map (·.2)) (hc : ∀ i, (𝒳 i).calm = true) (hN : ∀ i, (𝒳 i).N.Nodup)
    (hi : DI 𝒳 G tg iter S) (hg : DG (blkF 𝒳 scope) G.calm tg vs T) (ht : DTs (blkF 𝒳 scope) G.calm ifs C) (hi1 : DI (blkF 𝒳 scope) G.calm tg1 iter1 S1) (hg1 : DG (blkF 𝒳 scope) G.calm tg1 vs1 T1) (ht1 : DTs (blkF 𝒳 scope) G.calm ifs1 C1) (he : DE (blkF 𝒳 scope) G.calm elt E)
    (eN : ∀ i, (𝒳 i).N = N := by intro _; rfl) (es : ∀ i, (𝒳 i).env.scope = sc := by intro _; rfl) (hs : ∀ i, ∀ x, foldedSetIterable iter (𝒳 i).env x = pure x := by intro _ _; rfl) (hs1 : ∀ env x, foldedSetIterable iter1 env x = pure x := by intro _ _; rfl) :
    DE 𝒳 G (.ListComp elt [⟨tg, iter, ifs, 0⟩, ⟨tg1, iter1, ifs1, 0⟩] scope pos) (evLc2 mk (own.map (·.2)) vs1 S T C S1 T1 C1 E) := by
  obtain ⟨wi, pi, ri⟩ := hi
  obtain ⟨g, pg, rg⟩ := hg
  obtain ⟨tt, pt, rt⟩ := ht
  obtain ⟨wi1, pi1, ri1⟩ := hi1
  obtain ⟨g1, pg1, rg1⟩ := hg1
  obtain ⟨tt1, pt1, rt1⟩ := ht1
  obtain ⟨te, pe, re⟩ := he
  exact ⟨_, fun i => pe_lc2 (hc i) (hN i) (pi i) (by rw [eN i, es i]; exact ok) hsub1 (fun s H C cl fp => pg (i, s, H, C, cl, fp)) (fun s H C cl fp => pt (i, s, H, C, cl, fp)) (fun s H C cl fp => pi1 (i, s, H, C, cl, fp)) (fun s H C cl fp => pg1 (i, s, H, C, cl, fp)) (fun s H C cl fp => pt1 (i, s, H, C, cl, fp)) (fun s H C cl fp => pe (i, s, H, C, cl, fp)) (hs i) hs1, rd_lc2 _ ri rg rt ri1 rg1 rt1 re hsub⟩
/-- name = [..] -/
theorem ds_setLc2 (mk : Bool) (N : List Str) (sc : Scope) (own : List (Str × Nat)) (i : Nat) {y : Str} {py : Pos} (ok : BlkOk N sc scope own) (hsub : ∀ k, k ∈ vs → k ∈ own.map (·.2)) (hsub1 : ∀ k ∈ vs1, k ∈ own.map (·.2)) (hc : ∀ i, (𝒳 i).calm = true) (hN : ∀ i, (𝒳 i).N.Nodup)
    (hi : DI 𝒳 G tg iter S) (hg : DG (blkF 𝒳 scope) G.calm tg vs T) (ht : DTs (blkF 𝒳 scope) G.calm ifs C) (hi1 : DI (blkF 𝒳 scope) G.calm tg1 iter1 S1) (hg1 : DG (blkF 𝒳 scope) G.calm tg1 vs1 T1) (ht1 : DTs (blkF 𝒳 scope) G.calm ifs1 C1) (he : DE (blkF 𝒳 scope) G.calm elt E)
    (hy : N[i]? = some y) (hyl : sc.names.lookup y = some .local) (hsw : ∀ i, swapsWith (.ListComp elt [⟨tg, iter, ifs, 0⟩, ⟨tg1, iter1, ifs1, 0⟩] scope pos) (some (.Name y py)) spos.line (𝒳 i).env = pure true)
    (eN : ∀ i, (𝒳 i).N = N := by intro _; rfl) (es : ∀ i, (𝒳 i).env.scope = sc := by intro _; rfl) (hs : ∀ i, ∀ x, foldedSetIterable iter (𝒳 i).env x = pure x := by intro _ _; rfl) (hs1 : ∀ env x, foldedSetIterable iter1 env x = pure x := by intro _ _; rfl) :
    DS 𝒳 G (.Assign [.Name y py] (.ListComp elt [⟨tg, iter, ifs, 0⟩, ⟨tg1, iter1, ifs1, 0⟩] scope pos) spos) (evAsg (evLc2 mk (own.map (·.2)) vs1 S T C S1 T1 C1 E) (gtName i)) := by
  obtain ⟨wi, pi, ri⟩ := hi
  obtain ⟨g, pg, rg⟩ := hg
  obtain ⟨tt, pt, rt⟩ := ht
  obtain ⟨wi1, pi1, ri1⟩ := hi1
  obtain ⟨g1, pg1, rg1⟩ := hg1
  obtain ⟨tt1, pt1, rt1⟩ := ht1
  obtain ⟨te, pe, re⟩ := he
  refine ⟨_, fun k => ps_setLc2 (hc k) (hN k) (by rw [eN k]; exact hy) (by rw [es k]; exact hyl) (hsw k) (pi k) (by rw [eN k, es k]; exact ok) hsub1 (fun s H C cl fp => pg (k, s, H, C, cl, fp)) (fun s H C cl fp => pt (k, s, H, C, cl, fp)) (fun s H C cl fp => pi1 (k, s, H, C, cl, fp)) (fun s H C cl fp => pg1 (k, s, H, C, cl, fp)) (fun s H C cl fp => pt1 (k, s, H, C, cl, fp)) (fun s H C cl fp => pe (k, s, H, C, cl, fp)) (hs k) hs1, ?_⟩
  refine RdE.asg (vs := [i]) (rd_lc2 _ ri rg rt ri1 rg1 rt1 re hsub) ?_
  intro c v u σ δ Q s w r h
  refine h (σ.set i (some v)) c rfl (Ext.refl c) w (s.set i r) (by rw [List.length_set]) fun k hk => ?_
  rw [List.getElem?_set_ne (fun z => hk (by rw [z]; exact List.mem_singleton_self k))]
end
section
variable {W : Wd} {Q : RV → Wd → Prop} {E : DX → Wd → Prop} {QL : List RV → Wd → Prop} {δ : Env} {S S1 : Env → M (List D)} {T T1 : RV → Env → M Env} {C C1 : Env → M Bool} {F : Env → M RV}
def lcF2 (mk : Bool) (T : RV → Env → M Env) (C : Env → M Bool) (vs1 : List Nat) (S1 : Env → M (List D)) (T1 : RV → Env → M Env) (C1 : Env → M Bool) (Ee : Env → M RV) (δ : Env) (ds : List D) : M RV := noEr (goLc2 mk T C vs1 S1 T1 C1 Ee δ ds [])
@[simp] theorem w_lc2 {mk : Bool} {own vs1 : List Nat} : wpM (evLc2 mk own vs1 S T C S1 T1 C1 F δ) W Q E = wpM (S δ) W (kB (lcF2 mk T C vs1 S1 T1 C1 F (wipeD δ own)) Q E) E := propext wpM_bind
end
end DL
set_option Elab.async false
set_option linter.all false
set_option maxRecDepth 100000
set_option maxHeartbeats 4000000
/-! DL27: objects of the program's classes: their fields, read and stored. -/
namespace DL
open PySem PySem.Spec PyProof.Rows L2
section
variable {G : Gh} {c : Cf}
theorem repN_lookup {f : Str} {x : D} : ∀ {fs : List (Str × D)} {ws : List (Str × V)}, RepN c fs ws → fs.lookup f = some x → ∃ v, ws.lookup f = some v ∧ Rep c x v
  | [], _, _, h => by cases h
  | (k, y) :: fs, _, ⟨v, r, rfl, h1, h2⟩, h => by
    rw [List.lookup_cons] at h
    by_cases e : (f == k) = true
    · rw [e] at h
      cases h
      exact ⟨v, by rw [List.lookup_cons, e], h1⟩
    · rw [Bool.not_eq_true] at e
      rw [e] at h
      obtain ⟨u, hu, ru⟩ := repN_lookup h2 h
      exact ⟨u, by rw [List.lookup_cons, e]; exact hu, ru⟩
theorem repFs_lookup {f : Str} {x : RV} : ∀ {fs : List (Str × RV)} {ws : List (Str × V)}, RepFs c fs ws → fs.lookup f = some x → ∃ v, ws.lookup f = some v ∧ RepRV c x v
  | _, _, .nil, h => by cases h
  | (k, y) :: fs, _, .cons (b := (k', v)) (l₂ := r) ⟨hk, h1⟩ h2, h => by
    obtain rfl : k = k' := hk
    rw [List.lookup_cons] at h
    by_cases e : (f == k) = true
    · rw [e] at h
      cases h
      exact ⟨v, by rw [List.lookup_cons, e], h1⟩
    · rw [Bool.not_eq_true] at e
      rw [e] at h
      obtain ⟨u, hu, ru⟩ := repFs_lookup h2 h
      exact ⟨u, by rw [List.lookup_cons, e]; exact hu, ru⟩
def putR (f : Str) (v : RV) : List (Str × RV) → List (Str × RV)
  | [] => [(f, v)]
  | (g, x) :: r => if g = f then (g, v) :: r else (g, x) :: putR f v r
theorem repFs_put {f : Str} {x : RV} {v : V} (rv : RepRV c x v) : ∀ {fs : List (Str × RV)} {ws : List (Str × V)}, RepFs c fs ws → RepFs c (putR f x fs) (putF f v ws)
  | _, _, .nil => .cons ⟨rfl, rv⟩ .nil
  | (k, y) :: fs, _, .cons (b := (k', u)) (l₂ := r) ⟨hk, h1⟩ h2 => by
    obtain rfl : k = k' := hk
    show RepFs c (if k = f then (k, x) :: fs else (k, y) :: putR f x fs) (if k = f then (k, v) :: r else (k, u) :: putF f v r)
    by_cases e : k = f
    · rw [if_pos e, if_pos e]; exact .cons ⟨rfl, rv⟩ h2
    · rw [if_neg e, if_neg e]; exact .cons ⟨rfl, h1⟩ (repFs_put rv h2)
/-- a field -/
def fldM (C : Addr) (f : Str) : RV → M RV
  | .d (.obj C' fs) => M.opt (if C' = C then (fs.lookup f).map RV.d else none)
  | .r l => M.look fun W => match W[l]? with
    | some (.ins C' fs) => if C' = C then fs.lookup f else none
    | some (.fz (.obj C' fs)) => if C' = C then (fs.lookup f).map RV.d else none
    | _ => none
  | _ => M.fail
theorem fldM_ok {C : Addr} {f : Str} {u : RV} {x : V} {Q : RV → Wd → Prop} {E : DX → Wd → Prop} (w : WOk c) (r : RepRV c u x) (h : wpM (fldM C f u) c.W Q E) : ∃ a dx ws v rv, x = .ref a ∧ c.H a = some (.ins C dx ws) ∧ ws.lookup f = some v ∧ RepRV c rv v ∧ Q rv c.W := by
  cases u with
  | d y =>
    cases y <;> try exact h.elim
    case obj C' fs =>
      obtain ⟨rv, hr, q⟩ := wpM_opt h
      by_cases e : C' = C
      · subst e
        rw [if_pos rfl] at hr
        obtain ⟨d, hd, rfl⟩ := Option.map_eq_some_iff.mp hr
        obtain ⟨a, dx, ws, rfl, h1, _, h2⟩ := r
        obtain ⟨v, hv, rv⟩ := repN_lookup h2 hd
        exact ⟨a, dx, ws, v, .d d, rfl, h1, hv, rv, q⟩
      · rw [if_neg e] at hr; cases hr
  | r l =>
    obtain ⟨rv, hr, q⟩ := wpM_look h
    obtain ⟨rfl, hl⟩ := r
    split at hr
    · rename_i C' fs e
      by_cases ec : C' = C
      · subst ec
        rw [if_pos rfl] at hr
        obtain ⟨dx, ws, h1, h2⟩ := w.obj l _ e
        obtain ⟨v, hv, rv'⟩ := repFs_lookup h2 hr
        exact ⟨_, dx, ws, v, rv, rfl, h1, hv, rv', q⟩
      · rw [if_neg ec] at hr; cases hr
    · rename_i C' fs e
      by_cases ec : C' = C
      · subst ec
        rw [if_pos rfl] at hr
        obtain ⟨d, hd, rfl⟩ := Option.map_eq_some_iff.mp hr
        obtain ⟨a, dx, ws, ea, h1, _, h2⟩ := w.obj l _ e
        obtain ⟨v, hv, rv⟩ := repN_lookup h2 hd
        exact ⟨a, dx, ws, v, .d d, ea, h1, hv, rv, q⟩
      · rw [if_neg ec] at hr; cases hr
    · cases hr
def evFld (C : Addr) (f : Str) (Fe : Env → M RV) (δ : Env) : M RV := (Fe δ).bind (fldM C f)
/-- a field stored -/
def evSetFld (C : Addr) (f : Str) (Fo Fv : Env → M RV) (δ : Env) : M (Fl × Env) := (Fv δ).bind fun v => (Fo δ).bind fun o => match o with
  | .r l => (M.look fun W => match W[l]? with
    | some (.ins C' fs) => if C' = C ∧ fs.length < 1000 then some fs else none
    | _ => none).bind fun fs => (setAt l (.ins C (putR f v fs))).bind fun _ => M.ret (.nx, δ)
  | _ => M.fail
end
section
variable {ι : Type} {𝒳 : ι → Cx} {G : Gh} {e o value : Expr} {f : Str} {C : Addr} {Fe Fo Fv : Env → M RV} {pos pos' : Pos}
theorem de_fld (hC : Cls G.K C) (hn : NoAttr G.K C f) (hK : ∀ i, (𝒳 i).K = G.K) (h : DE 𝒳 G e Fe) (hb : ∀ i, attributeBase e f (𝒳 i).env (eval e (𝒳 i).env) = eval e (𝒳 i).env := by intro _; rfl) : DE 𝒳 G (.Attribute e f pos) (evFld C f Fe) := by
  obtain ⟨t, p, r⟩ := h
  refine ⟨tFld G.K t f, fun i => ?_, fun c σ δ Q s w h => ?_⟩
  · have := pe_fld (pos := pos) (p i) (hb i)
    rw [hK i] at this
    exact this
  · refine r c σ δ _ s w (wpM_mono (wpM_bind.mp h) (fun u W1 h1 x c1 hw e1 w1 r1 => ?_) fun _ _ q => q)
    subst hw
    obtain ⟨a, dx, ws, v, rv, rfl, h2, h3, h4, q⟩ := fldM_ok w1 r1 h1
    exact ⟨a, C, dx, ws, v, rfl, h2, hC, hn, h3, q v c1 rfl e1 w1 h4⟩
theorem ds_fld (hC : Cls G.K C) (hn : NoAttr G.K C f) (hK : ∀ i, (𝒳 i).K = G.K) (ho : DE 𝒳 G o Fo) (hv : DE 𝒳 G value Fv) (hs : ∀ i, swapsWith value (some (.Attribute o f pos')) pos.line (𝒳 i).env = pure false := by intro _; rfl) : DS 𝒳 G (.Assign [.Attribute o f pos'] value pos) (evSetFld C f Fo Fv) := by
  obtain ⟨to, po, ro⟩ := ho
  obtain ⟨tv, pv, rv⟩ := hv
  refine ⟨sFld G.K to tv f, fun i => ?_, fun c σ δ D s w h => ?_⟩
  · have := ps_fld (pos := pos) (pos' := pos') (po i) (pv i) (hs i)
    rw [hK i] at this
    exact this
  · refine rv c σ δ _ s w (wpM_mono (wpM_bind.mp h) (fun u W1 h1 y c1 hw e1 w1 r1 => ?_) fun _ _ q => q)
    subst hw
    refine ro c1 σ δ _ (s.mono e1) w1 (wpM_mono (wpM_bind.mp h1) (fun ov W2 h2 x c2 hw e2 w2 r2 => ?_) fun _ _ q => q.mono e1)
    subst hw
    cases ov with
    | d _ => exact h2.elim
    | r l =>
      obtain ⟨rfl, hl⟩ := r2
      obtain ⟨fs, hf, h3⟩ := wpM_look (wpM_bind.mp h2)
      split at hf
      · rename_i C' fs' el
        by_cases ec : C' = C ∧ fs'.length < 1000
        · rw [if_pos ec] at hf
          cases hf
          obtain ⟨rfl, hlen⟩ := ec
          obtain ⟨dx, ws, h4, h5⟩ := w2.obj l _ el
          have hlw : ws.length < 1000 := by rw [← paired_len h5]; exact hlen
          have ex : Ext c2 (c2.put l (.ins C' dx (putF f y ws)) (.ins C' (putR f u fs))) := Ext.put el trivial
          refine ⟨_, C', dx, ws, rfl, h4, hC, hn, hlw, ?_⟩
          exact h3 σ (c2.put l (.ins C' dx (putF f y ws)) (.ins C' (putR f u fs))) rfl ((e1.trans e2).trans ex) (w2.put el trivial ⟨dx, putF f y ws, upd_same, repFs_put ((r1.mono e2).mono ex) (h5.monoW ex.wk)⟩) (((s.mono e1).mono e2).mono ex)
        · rw [if_neg ec] at hf; cases hf
      · cases hf
end
end DL
set_option Elab.async false
set_option linter.all false
set_option maxRecDepth 100000
set_option maxHeartbeats 4000000
/-! DL28: objects made: C(..), its own __init__. -/
namespace DL
open PySem PySem.Spec PyProof.Rows L2
structure MakD (P : Program) (w : World) (K : PySem.W.Frag) (mg : Str → Option Value) (base : Heap) (cv : Str → Value) (k : Nat) (x : Str) (n : Nat) (C : Addr) (Fn : List RV → M RV) : Prop where
  ex : ∃ (f : Addr) (fd : FuncData) (ps : List Str), ps.length = n ∧ FnOk P w K mg base (L2N.CX P w) k f fd ps (spW K cv n Fn) ∧ mg x = some (.ref C) ∧ L2.Mk K C f ∧ Binds K fd ps []
section
variable {P : Program} {w : World} {K : PySem.W.Frag} {mg : Str → Option Value} {base : Heap} {cv : Str → Value}
theorem MakD.mono {j k : Nat} {x : Str} {n : Nat} {C : Addr} {Fn : List RV → M RV} (c : MakD P w K mg base cv j x n C Fn) (h : j ≤ k) : MakD P w K mg base cv k x n C Fn :=
  let ⟨f, fd, ps, e, F, q⟩ := c.ex; ⟨f, fd, ps, e, F.mono h, q⟩
end
def pushI (C : Addr) : M RV := fun W => some (.ok (.r W.length), W ++ [.ins C []])
def evMake (n : Nat) (C : Addr) (Fn : List RV → M RV) (R : Env → M (List RV)) (δ : Env) : M RV := (R δ).bind fun us => (M.guard (us.length + 1 = n)).bind fun _ => (pushI C).bind fun o => (Fn (o :: us)).bind fun v => match v with
  | .d .non => M.ret o
  | _ => M.fail
section
variable {ι : Type} {𝒳 : ι → Cx} {G : Gh} {e : Expr} {es : List Expr} {x : Str} {p pos : Pos} {R : Env → M (List RV)} {Fn : List RV → M RV} {k j n : Nat} {C : Addr}
theorem rd_make {t : TA} {K : PySem.W.Frag} (hK : K = G.K) (rt : RdA G t R) : RdE G (tMake C (spW K G.cv n Fn) [] G.Ex t) (evMake n C Fn R) := by
  subst hK
  intro c σ δ Q s w h
  refine rt c σ δ _ s w (wpM_mono (wpM_bind.mp h) (fun us W1 h1 xs c1 hw e1 w1 r1 => ?_) fun _ _ q => q)
  subst hw
  obtain ⟨hl, q⟩ := wpM_guard (wpM_bind.mp h1)
  intro a dx ha hdx hne
  obtain ⟨ex1, w2⟩ := w1.lay (o := .own a) hdx
  have ha2 : (c1.lay dx (.own a)).H a = none := by
    show upd c1.H dx _ a = none
    rw [upd_ne (Ne.symm hne)]; exact ha
  have ex2 : Ext (c1.lay dx (.own a)) ((c1.lay dx (.own a)).new a (.ins C dx []) (.ins C [])) := Ext.new ha2
  have w3 : WOk ((c1.lay dx (.own a)).new a (.ins C dx []) (.ins C [])) := w2.new ha2 ⟨dx, [], upd_same, .nil⟩
  have ex := ex1.trans ex2
  have hren : ((c1.lay dx (.own a)).new a (.ins C dx []) (.ins C [])).ren c1.W.length = a := ren_last
  refine ⟨(c1.lay dx (.own a)).new a (.ins C dx []) (.ins C []), .r c1.W.length :: us, rfl, w3, ?_, by simpa using hl, ?_⟩
  · rw [List.append_nil]
    exact .cons ⟨by rw [hren], by show c1.W.length < (c1.W ++ [_]).length; simp⟩ (RepVs.mono ex r1)
  · have q1 := wpM_bind.mp q
    refine wpM_mono (wpM_bind.mp (show wpM ((Fn (.r c1.W.length :: us)).bind _) (c1.W ++ [.ins C []]) _ _ from q1)) (fun v W4 h4 y c4 hw e4 w4 r4 => ?_) fun _ _ q => (q.mono e1).mono ex
    subst hw
    cases v with
    | r _ => exact h4.elim
    | d z =>
      cases z <;> try exact h4.elim
      case non =>
        refine ⟨r4, ?_⟩
        have q5 : QV c Q (.r c1.W.length) c4.W := h4
        refine q5 (.ref a) c4 rfl ((e1.trans ex).trans e4) w4 ⟨?_, ?_⟩
        · rw [e4.ren _ (by show c1.W.length < (c1.W ++ [_]).length; simp), hren]
        · exact Nat.lt_of_lt_of_le (by show c1.W.length < (c1.W ++ [_]).length; simp) e4.len
theorem de_make (hF : ∀ i, MakD (𝒳 i).prog (𝒳 i).w (𝒳 i).K (𝒳 i).mg (𝒳 i).base G.cv j x n C Fn) (hr : ∀ i, Room (k + 1) (𝒳 i).A) (hx : ∀ i, Passes (L2N.CX (𝒳 i).prog (𝒳 i).w) (𝒳 i) G.Ex) (hK : ∀ i, (𝒳 i).K = G.K) (ha : DA 𝒳 G (e :: es) R)
    (hjk : j ≤ k := by omega) (hg : ∀ i, Gl (𝒳 i) x := by intro _; rfl) (hdb : (x == ("__debug__" : Str)) = false := by decide) (he : ∀ i, starEach (e :: es) (𝒳 i).env = (false, eval e (𝒳 i).env) :: starEach es (𝒳 i).env := by intro _; rfl) (hpl : ∀ i, (backTo pos (starEach es (𝒳 i).env)).any (·.1) = false := by intro _; rfl) :
    DE 𝒳 G (.Call (.Name x p) (e :: es) [] pos) (evMake n C Fn R) := by
  obtain ⟨t, pt, rt⟩ := ha
  refine ⟨_, fun i => ?_, rd_make rfl rt⟩
  obtain ⟨f, fd, ps, hn, F, hm, hk, hb⟩ := (hF i).ex
  rw [hK i] at F hb hk
  have F' : FnOk (𝒳 i).prog (𝒳 i).w (𝒳 i).K (𝒳 i).mg (𝒳 i).base (L2N.CX (𝒳 i).prog (𝒳 i).w) j f fd ps (spW G.K G.cv n Fn) := by rw [hK i]; exact F
  exact pe_make (by rw [hK i]; exact hk) (F'.mono hjk) (hr i) (hg i) hm (by rw [hK i]; exact hb) .nil (hx i) (pt i) hdb (he i) (hpl i)
end
end DL
set_option Elab.async false
set_option linter.all false
set_option maxRecDepth 100000
set_option maxHeartbeats 4000000
/-! DL29: isinstance(x, C), C a class of the program. -/
namespace DL
open PySem PySem.Spec PyProof.Rows L2
def clsAt (W : Wd) : RV → Option Addr
  | .d (.obj C _) => some C
  | .r l => match W[l]? with
    | some (.ins C _) => some C
    | some (.fz (.obj C _)) => some C
    | _ => none
  | _ => none
section
variable {G : Gh} {c : Cf}
theorem clsAt_ok {C : Addr} {u : RV} {x : V} (w : WOk c) (r : RepRV c u x) (h : clsAt c.W u = some C) : ∃ a dx ws, x = .ref a ∧ c.H a = some (.ins C dx ws) := by
  cases u with
  | d y =>
    cases y <;> simp [clsAt] at h
    case obj C' fs =>
      subst h
      obtain ⟨a, dx, ws, rfl, h1, _⟩ := r
      exact ⟨a, dx, ws, rfl, h1⟩
  | r l =>
    obtain ⟨rfl, hl⟩ := r
    simp only [clsAt] at h
    split at h
    · rename_i C' fs e
      cases h
      obtain ⟨dx, ws, h1, _⟩ := w.obj l _ e
      exact ⟨_, dx, ws, rfl, h1⟩
    · rename_i C' fs e
      cases h
      obtain ⟨a, dx, ws, ea, h1, _⟩ := w.obj l _ e
      exact ⟨a, dx, ws, ea, h1⟩
    · cases h
/-- is it one of C's -/
def evIsC (C : Addr) (Fe : Env → M RV) (δ : Env) : M RV := (Fe δ).bind fun u => (M.look fun W => if clsAt W u = some C then some () else none).bind fun _ => M.ret (.d (.bl true))
/-- what is asked of a class of the program -/
structure OwnC (K : PySem.W.Frag) (C : Addr) : Prop where
  cls : Cls K C
  obj : PySem.W.findIn K (.ref C) "__class__" = some (some (.builtin "object.__class__"))
  get : PySem.W.specialIn K (.builtin "object.__class__") "__get__" = some (some (.builtin "getset_descriptor.__get__"))
  tak : PySem.W.takesIn K (.builtin "object.__class__") = some true
  mro : PySem.W.mroIn K C (.type "object") = some true
  kit : PySem.W.kitOne K (.ref C) (.ref C) = some true
end
section
variable {ι : Type} {𝒳 : ι → Cx} {G : Gh} {e : Expr} {y : Str} {C : Addr} {Fe : Env → M RV} {p py pos : Pos}
theorem de_isC (o : OwnC G.K C) (hm : ∀ i, (𝒳 i).mg "isinstance" = none) (hmC : ∀ i, (𝒳 i).mg y = some (.ref C)) (hK : ∀ i, (𝒳 i).K = G.K) (h : DE 𝒳 G e Fe) (hg : ∀ i, Gl (𝒳 i) "isinstance" := by intro _; rfl) (hgC : ∀ i, Gl (𝒳 i) y := by intro _; rfl) (hdb : (y == ("__debug__" : Str)) = false := by decide)
    (he : ∀ i, starEach [e, .Name y py] (𝒳 i).env = (false, eval e (𝒳 i).env) :: starEach [.Name y py] (𝒳 i).env := by intro _; rfl) (he2 : ∀ i, starEach [.Name y py] (𝒳 i).env = (false, eval (.Name y py) (𝒳 i).env) :: starEach [] (𝒳 i).env := by intro _; rfl) (hpl : ∀ i, (backTo pos (starEach [.Name y py] (𝒳 i).env)).any (·.1) = false := by intro _; rfl) :
    DE 𝒳 G (.Call (.Name "isinstance" p) [e, .Name y py] [] pos) (evIsC C Fe) := by
  obtain ⟨t, pt, rt⟩ := h
  refine ⟨tCB (rIsi G.K) (tCons t (tCons (tC (.ref C)) tNil)), fun i => ?_, fun c σ δ Q s w h => ?_⟩
  · have h2 : PE (𝒳 i) (.Name y py) (tC (.ref C)) := pe_glob (hgC i) (hmC i) rfl hdb
    have := pe_callB (p := p) (pos := pos) (x := "isinstance") (call_isi (X := 𝒳 i)) (hg i) (hm i) (by decide +kernel) (pa_cons (pt i) (pa_cons h2 pa_nil (he2 i)) (he i)) (by decide) (by decide) (he i) (hpl i)
    rw [hK i] at this
    exact this
  · refine rt c σ δ _ s w (wpM_mono (wpM_bind.mp h) (fun u W1 h1 x c1 hw e1 w1 r1 => ?_) fun _ _ q => q)
    subst hw
    obtain ⟨_, hc, q⟩ := wpM_look (wpM_bind.mp h1)
    have hc' : clsAt c1.W u = some C := by
      split at hc
      · assumption
      · cases hc
    obtain ⟨a, dx, ws, rfl, h3⟩ := clsAt_ok w1 r1 hc'
    exact ⟨.ref a, .ref C, .ref C, .ref C, true, rfl, .own C, .base (.ins h3 o.cls o.obj o.get o.tak o.mro), o.kit, q (.bl true) c1 rfl e1 w1 rfl⟩
end
end DL
set_option Elab.async false
set_option linter.all false
set_option maxRecDepth 100000
set_option maxHeartbeats 4000000
/-! DL30: dicts, their keys ints and texts or tuples of them: made, stored into, read, asked. -/
namespace DL
open PySem PySem.Spec PyProof.Rows L2
def keyOf : D → Option Key
  | .int i => some (.inl i)
  | .str z => some (.inr z)
  | _ => none
def keysL : List D → Option (List Key)
  | [] => some []
  | x :: xs => (keyOf x).bind fun k => (keysL xs).map (k :: ·)
def keysOf : D → Option (List Key)
  | .tup xs => keysL xs
  | _ => none
section
variable {c : Cf}
theorem keyOf_ok {x : D} {v : V} {k : Key} (r : Rep c x v) (h : keyOf x = some k) : v = kV k := by
  cases x <;> simp [keyOf] at h <;> subst h <;> exact r
theorem keysL_ok : ∀ {xs : List D} {vs : List V} {k : List Key}, RepL c xs vs → keysL xs = some k → vs = k.map kV
  | [], vs, k, r, h => by cases h; exact r
  | x :: xs, _, k, ⟨v, r', rfl, h1, h2⟩, h => by
    simp only [keysL, Option.bind_eq_some_iff, Option.map_eq_some_iff] at h
    obtain ⟨k1, e1, ks, e2, rfl⟩ := h
    rw [keyOf_ok h1 e1, keysL_ok h2 e2]; rfl
theorem keysOf_ok {x : D} {v : V} {k : List Key} (r : Rep c x v) (h : keysOf x = some k) : ∃ b, v = .ref b ∧ c.H b = some (.tup (k.map kV)) := by
  cases x <;> try (cases h; done)
  case tup xs =>
    obtain ⟨b, vs, rfl, h1, _, h2⟩ := r
    rw [keysL_ok h2 h] at h1
    exact ⟨b, rfl, h1⟩
/-- pairs, whatever the keys -/
def RepP {κ : Type} (c : Cf) (kvs : List (κ × D)) (ws : List (κ × V)) : Prop := Paired (fun p q => p.1 = q.1 ∧ Rep c p.2 q.2) kvs ws
theorem repK_p : ∀ {kvs : List (Key × D)} {ws : List (Key × V)}, RepK c kvs ws ↔ RepP c kvs ws
  | [], ws => ⟨fun h => by cases h; exact .nil, fun h => by cases h; rfl⟩
  | (k, x) :: kvs, ws => ⟨fun ⟨v, r, e, h1, h2⟩ => by subst e; exact .cons ⟨rfl, h1⟩ (repK_p.mp h2), fun h => by
    cases h with
    | @cons _ q _ r h1 h2 =>
      obtain ⟨k', v⟩ := q
      obtain ⟨e, h1⟩ := h1
      dsimp only at e h1
      subst e
      exact ⟨v, r, rfl, h1, repK_p.mpr h2⟩⟩
theorem repT_p : ∀ {kvs : List (List Key × D)} {ws : List (List Key × V)}, RepT c kvs ws ↔ RepP c kvs ws
  | [], ws => ⟨fun h => by cases h; exact .nil, fun h => by cases h; rfl⟩
  | (k, x) :: kvs, ws => ⟨fun ⟨v, r, e, h1, h2⟩ => by subst e; exact .cons ⟨rfl, h1⟩ (repT_p.mp h2), fun h => by
    cases h with
    | @cons _ q _ r h1 h2 =>
      obtain ⟨k', v⟩ := q
      obtain ⟨e, h1⟩ := h1
      dsimp only at e h1
      subst e
      exact ⟨v, r, rfl, h1, repT_p.mpr h2⟩⟩
section
variable {κ : Type} [DecidableEq κ]
def valD (kvs : List (κ × D)) (k : κ) : Option D := (kvs.find? fun kv => decide (kv.1 = k)).map (·.2)
def putD (kvs : List (κ × D)) (k : κ) (x : D) : List (κ × D) :=
  if (kvs.any fun kv => decide (kv.1 = k)) = true then kvs.map (fun kv => if kv.1 = k then (kv.1, x) else kv) else kvs ++ [(k, x)]
theorem repP_val {k : κ} : ∀ {kvs : List (κ × D)} {ws : List (κ × V)}, RepP c kvs ws → match valD kvs k with
    | some x => ∃ v, valV ws k = some v ∧ Rep c x v
    | none => valV ws k = none
  | [], _, .nil => rfl
  | (k1, x) :: kvs, _, .cons (b := (k2, v)) (l₂ := r) ⟨e, h1⟩ h2 => by
    dsimp only at e h1
    subst e
    have ih := repP_val (k := k) h2
    unfold valD valV at ih ⊢
    rw [List.find?_cons, List.find?_cons]
    dsimp only
    by_cases ek : k1 = k
    · rw [decide_eq_true ek]
      exact ⟨v, rfl, h1⟩
    · rw [decide_eq_false ek]
      exact ih
theorem repP_any {k : κ} : ∀ {kvs : List (κ × D)} {ws : List (κ × V)}, RepP c kvs ws → (kvs.any fun kv => decide (kv.1 = k)) = (ws.any fun kv => decide (kv.1 = k))
  | [], _, .nil => rfl
  | (k1, x) :: kvs, _, .cons (b := (k2, v)) (l₂ := r) ⟨e, h1⟩ h2 => by
    dsimp only at e
    subst e
    rw [List.any_cons, List.any_cons, repP_any h2]
theorem repP_map {k : κ} {x : D} {v : V} (rv : Rep c x v) : ∀ {kvs : List (κ × D)} {ws : List (κ × V)}, RepP c kvs ws → RepP c (kvs.map (fun kv => if kv.1 = k then (kv.1, x) else kv)) (ws.map (fun kv => if kv.1 = k then (kv.1, v) else kv))
  | [], _, .nil => .nil
  | (k1, y) :: kvs, _, .cons (b := (k2, u)) (l₂ := r) ⟨e, h1⟩ h2 => by
    dsimp only at e h1
    subst e
    refine .cons ?_ (repP_map rv h2)
    dsimp only
    split
    · exact ⟨rfl, rv⟩
    · exact ⟨rfl, h1⟩
theorem repP_put {k : κ} {x : D} {v : V} (rv : Rep c x v) {kvs : List (κ × D)} {ws : List (κ × V)} (r : RepP c kvs ws) : RepP c (putD kvs k x) (putK ws k v) := by
  unfold putD putK
  rw [repP_any r]
  split
  · exact repP_map rv r
  · exact paired_app r (.cons ⟨rfl, rv⟩ .nil)
end
end
/-- what a dict holds -/
def dicOf (W : Wd) : RV → Option (List (Key × D) ⊕ List (List Key × D))
  | .d (.dK kvs) => some (.inl kvs)
  | .d (.dT kvs) => some (.inr kvs)
  | .r l => match W[l]? with
    | some (.dK kvs) => some (.inl kvs)
    | some (.dT kvs) => some (.inr kvs)
    | some (.fz (.dK kvs)) => some (.inl kvs)
    | some (.fz (.dT kvs)) => some (.inr kvs)
    | _ => none
  | _ => none
def getD (m : List (Key × D) ⊕ List (List Key × D)) (y : D) : Option (Option D) := match m with
  | .inl kvs => (keyOf y).map (valD kvs)
  | .inr kvs => (keysOf y).map (valD kvs)
def dget (u y : RV) : M (Option D) := match y with
  | .d y => M.look fun W => (dicOf W u).bind fun m => getD m y
  | _ => M.fail
section
variable {G : Gh} {c : Cf}
theorem dicOf_ok {u : RV} {x : V} {m : List (Key × D) ⊕ List (List Key × D)} (w : WOk c) (r : RepRV c u x) (h : dicOf c.W u = some m) : ∃ a, x = .ref a ∧ match m with
    | .inl kvs => ∃ ws, Rd c.H a (.dK ws) ∧ RepP c kvs ws
    | .inr kvs => ∃ ws, Rd c.H a (.dT ws) ∧ RepP c kvs ws := by
  cases u with
  | d y =>
    cases y <;> try (cases h; done)
    case dK kvs => cases h; obtain ⟨a, ws, rfl, h1, _, h2⟩ := r; exact ⟨a, rfl, ws, h1, repK_p.mp h2⟩
    case dT kvs => cases h; obtain ⟨a, ws, rfl, h1, _, h2⟩ := r; exact ⟨a, rfl, ws, h1, repT_p.mp h2⟩
  | r l =>
    obtain ⟨rfl, hl⟩ := r
    simp only [dicOf] at h
    split at h
    · rename_i kvs e
      cases h
      obtain ⟨ws, h1, h2⟩ := w.obj l _ e
      exact ⟨_, rfl, ws, .inl h1, repK_p.mp h2⟩
    · rename_i kvs e
      cases h
      obtain ⟨ws, h1, h2⟩ := w.obj l _ e
      exact ⟨_, rfl, ws, .inl h1, repT_p.mp h2⟩
    · rename_i kvs e
      cases h
      obtain ⟨a, ws, ea, h1, _, h2⟩ := w.obj l _ e
      exact ⟨a, ea, ws, h1, repK_p.mp h2⟩
    · rename_i kvs e
      cases h
      obtain ⟨a, ws, ea, h1, _, h2⟩ := w.obj l _ e
      exact ⟨a, ea, ws, h1, repT_p.mp h2⟩
    · cases h
theorem dget_ok {u y : RV} {x z : V} {Q : Option D → Wd → Prop} {E : DX → Wd → Prop} (w : WOk c) (r : RepRV c u x) (ry : RepRV c y z) (h : wpM (dget u y) c.W Q E) : ∃ a o ov, x = .ref a ∧ DGet c.H a z ov ∧ Q o c.W ∧ match o with
    | some d => ∃ v, ov = some v ∧ Rep c d v
    | none => ov = none := by
  cases y with
  | r _ => exact h.elim
  | d y =>
    obtain ⟨o, ho, q⟩ := wpM_look h
    obtain ⟨m, hm, hg⟩ := Option.bind_eq_some_iff.mp ho
    obtain ⟨a, rfl, hd⟩ := dicOf_ok w r hm
    cases m with
    | inl kvs =>
      obtain ⟨ws, h1, h2⟩ := hd
      obtain ⟨k, hk, rfl⟩ := Option.map_eq_some_iff.mp hg
      obtain rfl := keyOf_ok ry hk
      refine ⟨a, _, valV ws k, rfl, .inl ⟨ws, k, h1, rfl, rfl⟩, q, ?_⟩
      have := repP_val (k := k) h2
      cases e : valD kvs k with
      | some d => rw [e] at this; exact this
      | none => rw [e] at this; exact this
    | inr kvs =>
      obtain ⟨ws, h1, h2⟩ := hd
      obtain ⟨k, hk, rfl⟩ := Option.map_eq_some_iff.mp hg
      obtain ⟨b, rfl, hb⟩ := keysOf_ok ry hk
      refine ⟨a, _, valV ws k, rfl, .inr ⟨ws, k, b, h1, rfl, hb, rfl⟩, q, ?_⟩
      have := repP_val (k := k) h2
      cases e : valD kvs k with
      | some d => rw [e] at this; exact this
      | none => rw [e] at this; exact this
end
def evDGet (Fd Fk : Env → M RV) (δ : Env) : M RV := (Fd δ).bind fun u => (Fk δ).bind fun y => (dget u y).bind fun o => M.opt (o.map RV.d)
def evDIn (neg : Bool) (Fk Fd : Env → M RV) (δ : Env) : M RV := (Fk δ).bind fun y => (Fd δ).bind fun u => (dget u y).bind fun o => M.ret (.d (.bl (o.isSome != neg)))
section
variable {ι : Type} {𝒳 : ι → Cx} {G : Gh} {d k value : Expr} {Fd Fk Fv : Env → M RV} {pos pos' : Pos}
theorem de_dget (hu : ∀ i, (𝒳 i).A.units + 1 < cLine) (hd : DE 𝒳 G d Fd) (hk : DE 𝒳 G k Fk) (hs : NoSl k := by intro _ _; rfl) : DE 𝒳 G (.Subscript d k pos) (evDGet Fd Fk) := by
  obtain ⟨td, pd, rd⟩ := hd
  obtain ⟨tk, pk, rk⟩ := hk
  refine ⟨tDGet td tk, fun i => pe_dget (hu i) (pd i) (pk i) hs, fun c σ δ Q s w h => ?_⟩
  refine rd c σ δ _ s w (wpM_mono (wpM_bind.mp h) (fun u W1 h1 x c1 hw e1 w1 r1 => ?_) fun _ _ q => q)
  subst hw
  refine rk c1 σ δ _ (s.mono e1) w1 (wpM_mono (wpM_bind.mp h1) (fun y W2 h2 z c2 hw e2 w2 r2 => ?_) fun _ _ q => q.mono e1)
  subst hw
  obtain ⟨a, o, ov, rfl, hg, q, hm⟩ := dget_ok w2 (r1.mono e2) r2 (wpM_bind.mp h2)
  obtain ⟨rv, hr, q⟩ := wpM_opt q
  obtain ⟨x, rfl, rfl⟩ := Option.map_eq_some_iff.mp hr
  obtain ⟨v, rfl, hv⟩ := hm
  exact ⟨a, v, rfl, hg, q v c2 rfl (e1.trans e2) w2 hv⟩
end
end DL
set_option Elab.async false
set_option linter.all false
set_option maxRecDepth 100000
set_option maxHeartbeats 4000000
/-! DL31: dicts made and stored into. -/
namespace DL
open PySem PySem.Spec PyProof.Rows L2
def pushD (t : Bool) : M RV := fun W => some (.ok (.r W.length), W ++ [if t then .dT [] else .dK []])
def dputM (u : RV) (y x : D) : M Unit := match u with
  | .r l => fun W => match W[l]? with
    | some (.dK kvs) => if kvs.length < sizeLine then (keyOf y).map fun k => (.ok (), W.set l (.dK (putD kvs k x))) else none
    | some (.dT kvs) => if kvs.length < sizeLine then (keysOf y).map fun k => (.ok (), W.set l (.dT (putD kvs k x))) else none
    | _ => none
  | _ => M.fail
section
variable {G : Gh} {c : Cf}
theorem dputM_ok {u : RV} {y x : D} {a z v : V} {Q : Unit → Wd → Prop} {E : DX → Wd → Prop} (w : WOk c) (r : RepRV c u a) (ry : Rep c y z) (rx : Rep c x v) (h : wpM (dputM u y x) c.W Q E) : ∃ b H4 c4, a = .ref b ∧ DPut c.H b z v H4 ∧ c4.H = H4 ∧ Ext c c4 ∧ WOk c4 ∧ Q () c4.W := by
  cases u with
  | d _ => exact h.elim
  | r l =>
    obtain ⟨rfl, hl⟩ := r
    unfold wpM dputM at h
    dsimp only at h
    cases e : c.W[l]? with
    | none => rw [e] at h; exact h.elim
    | some m =>
      rw [e] at h
      cases m <;> try exact h.elim
      case dK kvs =>
        dsimp only at h
        by_cases hz : kvs.length < sizeLine
        · rw [if_pos hz] at h
          cases ek : keyOf y with
          | none => rw [ek] at h; exact h.elim
          | some k =>
            rw [ek] at h
            obtain rfl := keyOf_ok ry ek
            obtain ⟨ws, h1, h2⟩ := w.obj l _ e
            have h2' := repK_p.mp h2
            have ex : Ext c (c.put l (.dK (putK ws k v)) (.dK (putD kvs k x))) := Ext.put e trivial
            exact ⟨_, _, c.put l (.dK (putK ws k v)) (.dK (putD kvs k x)), rfl, .k h1 (by rw [← paired_len h2']; exact hz), rfl, ex, w.put e trivial ⟨_, upd_same, repK_p.mpr (repP_put (Rep.mono ex _ _ rx) (repK_p.mp (RepK.monoW ex.wk _ _ h2)))⟩, h⟩
        · rw [if_neg hz] at h; exact h.elim
      case dT kvs =>
        dsimp only at h
        by_cases hz : kvs.length < sizeLine
        · rw [if_pos hz] at h
          cases ek : keysOf y with
          | none => rw [ek] at h; exact h.elim
          | some k =>
            rw [ek] at h
            obtain ⟨b, rfl, hb⟩ := keysOf_ok ry ek
            obtain ⟨ws, h1, h2⟩ := w.obj l _ e
            have h2' := repT_p.mp h2
            have ex : Ext c (c.put l (.dT (putK ws k v)) (.dT (putD kvs k x))) := Ext.put e trivial
            exact ⟨_, _, c.put l (.dT (putK ws k v)) (.dT (putD kvs k x)), rfl, .t h1 hb (by rw [← paired_len h2']; exact hz), rfl, ex, w.put e trivial ⟨_, upd_same, repT_p.mpr (repP_put (Rep.mono ex _ _ rx) (repT_p.mp (RepT.monoW ex.wk _ _ h2)))⟩, h⟩
        · rw [if_neg hz] at h; exact h.elim
end
/-- d[k] = v: the value first, the dict, the key; all but the dict pure -/
def evDPut (Fd Fk Fv : Env → M RV) (δ : Env) : M (Fl × Env) := (Fv δ).bind fun v => (Fd δ).bind fun u => (Fk δ).bind fun y => (toD v).bind fun x => (toD y).bind fun z => (dputM u z x).bind fun _ => M.ret (.nx, δ)
section
variable {ι : Type} {𝒳 : ι → Cx} {G : Gh} {d k value f : Expr} {Fd Fk Fv Fx : Env → M RV} {pos pos' : Pos}
theorem de_dnewT : DE 𝒳 G (.Dict [] [] pos) (fun _ => pushD true) := ⟨tDNewT, fun _ => pe_dnewT, fun c σ δ Q s w h a ha => by
  have e := Ext.new (c := c) (o := .dT []) (m := .dT []) ha
  refine h (.ref a) (c.new a (.dT []) (.dT [])) rfl e (w.new ha ⟨[], upd_same, rfl⟩) ⟨by rw [ren_last], ?_⟩
  show c.W.length < (c.W ++ [_]).length
  simp⟩
theorem de_dnewK : DE 𝒳 G (.Dict [] [] pos) (fun _ => pushD false) := ⟨tDNewK, fun _ => pe_dnewK, fun c σ δ Q s w h a ha => by
  have e := Ext.new (c := c) (o := .dK []) (m := .dK []) ha
  refine h (.ref a) (c.new a (.dK []) (.dK [])) rfl e (w.new ha ⟨[], upd_same, rfl⟩) ⟨by rw [ren_last], ?_⟩
  show c.W.length < (c.W ++ [_]).length
  simp⟩
theorem ds_dput (hu : ∀ i, (𝒳 i).A.units + 1 < cLine) (hd : DE 𝒳 G d Fd) (hk : DE 𝒳 G k Fk) (hv : DE 𝒳 G value Fv) (hs : ∀ i, swapsWith value (some (.Subscript d k pos')) pos.line (𝒳 i).env = pure false := by intro _; rfl) : DS 𝒳 G (.Assign [.Subscript d k pos'] value pos) (evDPut Fd Fk Fv) := by
  obtain ⟨td, pd, rd⟩ := hd
  obtain ⟨tk, pk, rk⟩ := hk
  obtain ⟨tv, pv, rv⟩ := hv
  refine ⟨sDPut td tk tv, fun i => ps_dput (hu i) (pd i) (pk i) (pv i) (hs i), fun c σ δ D s w h => ?_⟩
  refine rv c σ δ _ s w (wpM_mono (wpM_bind.mp h) (fun v W1 h1 x1 c1 hw e1 w1 r1 => ?_) fun _ _ q => q)
  subst hw
  refine rd c1 σ δ _ (s.mono e1) w1 (wpM_mono (wpM_bind.mp h1) (fun u W2 h2 x2 c2 hw e2 w2 r2 => ?_) fun _ _ q => q.mono e1)
  subst hw
  refine rk c2 σ δ _ ((s.mono e1).mono e2) w2 (wpM_mono (wpM_bind.mp h2) (fun y W3 h3 x3 c3 hw e3 w3 r3 => ?_) fun _ _ q => (q.mono e1).mono e2)
  subst hw
  obtain ⟨c4, x, hH4, e4, w4, r4, h4⟩ := toD_ok w3 ((r1.mono e2).mono e3) (wpM_bind.mp h3)
  obtain ⟨c5, z, hH5, e5, w5, r5, h5⟩ := toD_ok w4 (r3.mono e4) (wpM_bind.mp h4)
  obtain ⟨b, H6, c6, rfl, hp, rfl, e6, w6, h6⟩ := dputM_ok w5 (((r2.mono e3).mono e4).mono e5) r5 (Rep.mono e5 _ _ r4) (wpM_bind.mp h5)
  rw [hH5, hH4] at hp
  exact ⟨b, c6.H, rfl, hp, h6 σ c6 rfl (((((e1.trans e2).trans e3).trans e4).trans e5).trans e6) w6 ((((((s.mono e1).mono e2).mono e3).mono e4).mono e5).mono e6)⟩
theorem rd_din (neg : Bool) {ty td : TE} (rk : RdE G ty Fk) (rd : RdE G td Fd) : RdE G (if neg then tDNotIn ty td else tDIn ty td) (evDIn neg Fk Fd) := by
  intro c σ δ Q s w h
  have main : ty σ c.H fun y H1 => td σ H1 fun x H2 => ∃ a o, x = .ref a ∧ DGet H2 a y o ∧ Q (.bl (o.isSome != neg)) H2 := by
    refine rk c σ δ _ s w (wpM_mono (wpM_bind.mp h) (fun y W1 h1 z c1 hw e1 w1 r1 => ?_) fun _ _ q => q)
    subst hw
    refine rd c1 σ δ _ (s.mono e1) w1 (wpM_mono (wpM_bind.mp h1) (fun u W2 h2 x c2 hw e2 w2 r2 => ?_) fun _ _ q => q.mono e1)
    subst hw
    obtain ⟨a, o, ov, rfl, hg, q, hm⟩ := dget_ok w2 r2 (r1.mono e2) (wpM_bind.mp h2)
    refine ⟨a, ov, rfl, hg, ?_⟩
    have e : ov.isSome = o.isSome := by
      cases o with
      | some d => obtain ⟨v, rfl, _⟩ := hm; rfl
      | none => rw [show ov = none from hm]; rfl
    rw [e]
    exact q (.bl (o.isSome != neg)) c2 rfl (e1.trans e2) w2 rfl
  cases neg with
  | false =>
    have : tDIn ty td σ c.H Q := by
      unfold tDIn
      simpa using main
    exact this
  | true =>
    have : tDNotIn ty td σ c.H Q := by
      unfold tDNotIn
      simpa using main
    exact this
theorem de_din (hu : ∀ i, (𝒳 i).A.units + 1 < cLine) (hk : DE 𝒳 G k Fk) (hd : DE 𝒳 G d Fd) (hm : behindInMarks .In d = false := by rfl) : DE 𝒳 G (.Compare k [.In] [d] pos) (evDIn false Fk Fd) := by
  obtain ⟨td, pd, rd⟩ := hd
  obtain ⟨tk, pk, rk⟩ := hk
  exact ⟨_, fun i => pe_cmp (pc_din (hu i) (pk i) (pd i)) hm, rd_din false rk rd⟩
theorem dt_din (hu : ∀ i, (𝒳 i).A.units + 1 < cLine) (hk : DE 𝒳 G k Fk) (hd : DE 𝒳 G d Fd) (hm : behindInMarks .In d = false := by rfl) : DT 𝒳 G (.Compare k [.In] [d] pos) (evB (evDIn false Fk Fd)) := by
  obtain ⟨td, pd, rd⟩ := hd
  obtain ⟨tk, pk, rk⟩ := hk
  exact ⟨_, fun i => pt_cmp (pc_din (hu i) (pk i) (pd i)) hm, (rd_din false rk rd).test⟩
theorem de_dnin (hu : ∀ i, (𝒳 i).A.units + 1 < cLine) (hk : DE 𝒳 G k Fk) (hd : DE 𝒳 G d Fd) (hm : behindInMarks .NotIn d = false := by rfl) : DE 𝒳 G (.Compare k [.NotIn] [d] pos) (evDIn true Fk Fd) := by
  obtain ⟨td, pd, rd⟩ := hd
  obtain ⟨tk, pk, rk⟩ := hk
  exact ⟨_, fun i => pe_cmp (pc_dnotin (hu i) (pk i) (pd i)) hm, rd_din true rk rd⟩
theorem dt_dnin (hu : ∀ i, (𝒳 i).A.units + 1 < cLine) (hk : DE 𝒳 G k Fk) (hd : DE 𝒳 G d Fd) (hm : behindInMarks .NotIn d = false := by rfl) : DT 𝒳 G (.Compare k [.NotIn] [d] pos) (evB (evDIn true Fk Fd)) := by
  obtain ⟨td, pd, rd⟩ := hd
  obtain ⟨tk, pk, rk⟩ := hk
  exact ⟨_, fun i => pt_cmp (pc_dnotin (hu i) (pk i) (pd i)) hm, (rd_din true rk rd).test⟩
/-- d.get(k, x) -/
def evDGet2 (Fd Fk Fx : Env → M RV) (δ : Env) : M RV := (Fd δ).bind fun u => (M.look fun W => (dicOf W u).map fun _ => ()).bind fun _ => (Fk δ).bind fun y => (Fx δ).bind fun z => (dget u y).bind fun o => M.ret (match o with | some x => .d x | none => z)
theorem de_dget2 {apos cpos : Pos} (hu : ∀ i, (𝒳 i).A.units + 1 < cLine) (hd : DE 𝒳 G d Fd) (hk : DE 𝒳 G k Fk) (hx : DE 𝒳 G f Fx) (m : ∀ i, M2 (𝒳 i) d "get" apos k f cpos) : DE 𝒳 G (.Call (.Attribute d "get" apos) [k, f] [] cpos) (evDGet2 Fd Fk Fx) := by
  obtain ⟨td, pd, rd⟩ := hd
  obtain ⟨tk, pk, rk⟩ := hk
  obtain ⟨tx, px, rx⟩ := hx
  refine ⟨tDGet2 td tk tx, fun i => pe_dget2 (hu i) (pd i) (pk i) (px i) (m i), fun c σ δ Q s w h => ?_⟩
  refine rd c σ δ _ s w (wpM_mono (wpM_bind.mp h) (fun u W1 h1 x1 c1 hw e1 w1 r1 => ?_) fun _ _ q => q)
  subst hw
  obtain ⟨_, hl, h1⟩ := wpM_look (wpM_bind.mp h1)
  obtain ⟨m, hm, _⟩ := Option.map_eq_some_iff.mp hl
  obtain ⟨a0, rfl, hd0⟩ := dicOf_ok w1 r1 hm
  refine ⟨a0, rfl, ?_, ?_⟩
  · cases m with
    | inl kvs => obtain ⟨ws, h1, _⟩ := hd0; exact .inl ⟨ws, h1⟩
    | inr kvs => obtain ⟨ws, h1, _⟩ := hd0; exact .inr ⟨ws, h1⟩
  refine rk c1 σ δ _ (s.mono e1) w1 (wpM_mono (wpM_bind.mp h1) (fun y W2 h2 x2 c2 hw e2 w2 r2 => ?_) fun _ _ q => q.mono e1)
  subst hw
  refine rx c2 σ δ _ ((s.mono e1).mono e2) w2 (wpM_mono (wpM_bind.mp h2) (fun z W3 h3 x3 c3 hw e3 w3 r3 => ?_) fun _ _ q => (q.mono e1).mono e2)
  subst hw
  obtain ⟨a, o, ov, ea, hg, q, hm⟩ := dget_ok w3 ((r1.mono e2).mono e3) (r2.mono e3) (wpM_bind.mp h3)
  obtain rfl : a0 = a := by cases ea; rfl
  refine ⟨ov, hg, ?_⟩
  cases o with
  | some d =>
    obtain ⟨v, rfl, hv⟩ := hm
    exact q v c3 rfl ((e1.trans e2).trans e3) w3 hv
  | none =>
    rw [show ov = none from hm]
    exact q x3 c3 rfl ((e1.trans e2).trans e3) w3 r3
end
end DL
set_option Elab.async false
set_option linter.all false
set_option maxRecDepth 100000
set_option maxHeartbeats 4000000
/-! DL32: for key in a dict that never changes: it is locked meanwhile. -/
namespace DL
open PySem PySem.Spec PyProof.Rows L2
section
variable {c c' : Cf}
structure Lk (c c' : Cf) : Prop where
  W : c'.W = c.W
  ren : c'.ren = c.ren
  ao : c'.Ao = c.Ao
  kp : Kp c c'
  mu : ∀ l o, c.W[l]? = some o → o.mut → c'.H (c.ren l) = c.H (c.ren l)
  aoH : ∀ a, c.Ao a → c'.H a = c.H a
theorem lk_of {a : Addr} {o x : HO} (h : c.H a = some o) (n : ¬ Av c a) (e : LkEq o (some x)) : Lk c ⟨upd c.H a x, c.ren, c.W, c.Ao⟩ := by
  refine ⟨rfl, rfl, rfl, fun b u hb _ nb => ⟨?_, nb⟩, fun l u hl m => ?_, fun b hb => ?_⟩
  · by_cases q : b = a
    · subst q
      rw [h] at hb
      cases hb
      show LkEq o (upd c.H b x b)
      rw [upd_same]; exact e
    · show LkEq u (upd c.H a x b)
      rw [upd_ne q]; exact .inl hb
  · show upd c.H a x (c.ren l) = _
    rw [upd_ne (fun q => n (.inr ⟨l, u, hl, m, q⟩))]
  · show upd c.H a x b = _
    rw [upd_ne (fun q => n (.inl (by rw [← q]; exact hb)))]
theorem Lk.rv (e : Lk c c') {u : RV} {v : V} (h : RepRV c u v) : RepRV c' u v := by
  cases u with
  | d x => exact Rep.monoK e.kp _ _ h
  | r l => exact ⟨by rw [e.ren]; exact h.1, by rw [e.W]; exact h.2⟩
theorem Lk.vs (e : Lk c c') {xs : List RV} {vs : List V} (h : RepVs c xs vs) : RepVs c' xs vs := Paired.mapP h fun _ _ => e.rv
theorem Lk.ok (e : Lk c c') (w : WOk c) : WOk c' := by
  refine ⟨fun l o hl => ?_, fun l l' o o' h1 m1 h2 m2 q => ?_, fun l o hl m => ?_, fun a ha => ?_⟩
  · rw [e.W] at hl
    have r := w.obj l o hl
    rw [e.ren]
    cases o with
    | lst xs => obtain ⟨vs, h1, h2⟩ := r; exact ⟨vs, (e.mu l _ hl trivial).trans h1, e.vs h2⟩
    | fz x => exact Rep.monoK e.kp _ _ r
    | dK xs => obtain ⟨vs, h1, h2⟩ := r; exact ⟨vs, (e.mu l _ hl trivial).trans h1, RepK.monoK e.kp _ _ h2⟩
    | dT xs => obtain ⟨vs, h1, h2⟩ := r; exact ⟨vs, (e.mu l _ hl trivial).trans h1, RepT.monoK e.kp _ _ h2⟩
    | ins C xs => obtain ⟨dx, vs, h1, h2⟩ := r; exact ⟨dx, vs, (e.mu l _ hl trivial).trans h1, Paired.mapP h2 fun _ _ q => ⟨q.1, e.rv q.2⟩⟩
    | tbl P q => obtain ⟨h0, ps, h1, h2, h3⟩ := r; exact ⟨h0, ps, (e.mu l _ hl trivial).trans h1, h2, fun pos cv hc => (h3 pos cv hc).imp fun c' z => ⟨z.1, e.kp.at (o := LamX.CodeO c' q) z.2.1 z.2.2 (by unfold LamX.CodeO; exact fun z => z) (by unfold LamX.CodeO; intro _ _ q z; cases z) (by unfold LamX.CodeO; rintro ⟨_, _, z⟩; cases z), e.kp.av (o := LamX.CodeO c' q) z.2.1 z.2.2 (by unfold LamX.CodeO; rintro ⟨_, _, z⟩; cases z)⟩⟩
  · rw [e.W] at h1 h2
    rw [e.ren] at q
    exact w.inj l l' o o' h1 m1 h2 m2 q
  · rw [e.W] at hl
    rw [e.ao, e.ren]
    exact w.out l o hl m
  · rw [e.ao] at ha
    obtain ⟨o, h1, h2⟩ := w.ao a ha
    exact ⟨o, (e.aoH a ha).trans h1, h2⟩
theorem Lk.env (e : Lk c c') {σ : L2.St} {δ : Env} (s : SOk σ δ c) : SOk σ δ c' := ⟨s.len, fun i rv h => let ⟨v, h1, h2⟩ := s.get i rv h; ⟨v, h1, e.rv h2⟩⟩
/-- locked, something done, unlocked -/
theorem unlock_ext {a : Addr} {u : HO} {od : Obj} {c4 : Cf} (h : c.H a = some u) (n : ¬ Av c a) (e : Ext ⟨upd c.H a (.frz od u), c.ren, c.W, c.Ao⟩ c4) : c4.H a = some (.frz od u) ∧ ¬ Av c4 a ∧ Ext c ⟨upd c4.H a u, c4.ren, c4.W, c4.Ao⟩ := by
  have k := e.keep a (.frz od u) upd_same fun z => n (.inr z)
  have n4 : ¬ Av c4 a := fun z => z.elim (fun y => n (.inl (by rw [e.ao] at y; exact y))) (e.dead a (.frz od u) upd_same fun z => n (.inr z))
  refine ⟨k, n4, ⟨fun b o hb nb => ?_, fun b o hb nb => ?_, e.ren, e.len, e.ao⟩⟩
  · by_cases q : b = a
    · subst q
      rw [h] at hb
      cases hb
      exact upd_same
    · show upd c4.H a u b = _
      rw [upd_ne q]
      exact e.keep b o (by show upd c.H a _ b = _; rw [upd_ne q]; exact hb) nb
  · by_cases q : b = a
    · subst q
      exact fun z => n4 (.inr z)
    · exact e.dead b o (by show upd c.H a _ b = _; rw [upd_ne q]; exact hb) nb
end
def kD : Key → D
  | .inl i => .int i
  | .inr z => .str z
theorem kD_rep {c : Cf} : ∀ k : Key, Rep c (kD k) (kV k)
  | .inl _ => rfl
  | .inr _ => rfl
theorem kDs_rep {c : Cf} : ∀ ks : List Key, RepL c (ks.map kD) (ks.map kV)
  | [] => rfl
  | k :: ks => ⟨_, _, rfl, kD_rep k, kDs_rep ks⟩
def dkeys : List (Key × D) ⊕ List (List Key × D) → List D
  | .inl kvs => kvs.map fun p => kD p.1
  | .inr kvs => kvs.map fun p => .tup (p.1.map kD)
section
variable {c : Cf}
theorem repP_get {κ : Type} {i : Nat} {k : κ} {v : V} {kvs : List (κ × D)} {ws : List (κ × V)} (r : RepP c kvs ws) (h : ws[i]? = some (k, v)) : ∃ x, kvs[i]? = some (k, x) := by
  induction r generalizing i with
  | nil => simp at h
  | @cons p q l₁ l₂ hq t ih =>
    cases i with
    | zero =>
      simp at h
      subst h
      obtain ⟨k1, y⟩ := p
      obtain ⟨e, _⟩ := hq
      dsimp only at e
      subst e
      exact ⟨y, rfl⟩
    | succ i => exact ih (by simpa using h)
theorem src_keys {a : Addr} {od : Obj} {kvs : List (Key × D)} {ws : List (Key × V)} (h : c.H a = some (.frz od (.dK ws))) (n : ¬ Av c a) (r : RepP c kvs ws) : Src c (Itk a od ws) (dkeys (.inl kvs)) := by
  refine ⟨_, _, by unfold dkeys; rw [List.length_map, paired_len r]; exact walk_keys, fun c2 k => k.at h n, fun i x H2 c2 d hd k w y => ?_⟩
  obtain ⟨rfl, k1, v, h1, rfl⟩ := y
  obtain ⟨x, hx⟩ := repP_get r h1
  unfold dkeys at hd
  rw [List.getElem?_map, hx] at hd
  cases hd
  exact ⟨c2, rfl, rfl, Ext.refl c2, w, kD_rep k1⟩
theorem src_keysT {a : Addr} {od : Obj} {kvs : List (List Key × D)} {ws : List (List Key × V)} (h : c.H a = some (.frz od (.dT ws))) (n : ¬ Av c a) (r : RepP c kvs ws) : Src c (Itkt a od ws) (dkeys (.inr kvs)) := by
  refine ⟨_, _, by unfold dkeys; rw [List.length_map, paired_len r]; exact walk_keysT, fun c2 k => k.at h n, fun i x H2 c2 d hd k w y => ?_⟩
  obtain ⟨rfl, k1, v, q, h1, rfl, hq⟩ := y
  obtain ⟨x, hx⟩ := repP_get r h1
  unfold dkeys at hd
  rw [List.getElem?_map, hx] at hd
  cases hd
  exact ⟨c2, rfl, rfl, Ext.refl c2, w, q, _, rfl, hq, w.tup hq, kDs_rep k1⟩
end
section
variable {G : Gh} {vs : List Nat} {T : RV → Env → M Env} {B : Env → M (Fl × Env)} {g : TG} {tb : TS}
theorem for_core (rg : RdG G g vs T) (rt : RdS G tb B) {J : It} {ds : List D} {c1 : Cf} {σ : L2.St} {δ : Env} {D : Ends} {wi : TI} (src : Src c1 J ds) (w1 : WOk c1) (s1 : SOk σ δ c1) (h1 : wpM (goFor T B ds δ) c1.W (QS c1 D) (QE G c1)) (hwi : ∀ R : It → Hp → Prop, R J c1.H → wi σ c1.H R) : tFor wi g tb D σ c1.H := by
  refine hwi _ ?_
  obtain ⟨Gd, Y, wk, hG, hY⟩ := src
  refine for_it wk (fun i σ H => ∃ c2 δ2, c2.H = H ∧ Ext c1 c2 ∧ WOk c2 ∧ SOk σ δ2 c2 ∧ wpM (goFor T B (ds.drop i) δ2) c2.W (QS c2 D) (QE G c2)) ⟨c1, δ, rfl, Ext.refl c1, w1, s1, h1⟩ ?_ ?_ ?_
  · rintro i σ H _ ⟨c2, δ2, rfl, e2, w2, s2, _⟩
    exact hG c2 e2.wk
  · rintro i x σ H H' hi ⟨c2, δ2, rfl, e2, w2, s2, h2⟩ y
    rw [List.drop_eq_getElem_cons hi] at h2
    obtain ⟨c3, rfl, hw3, e3, w3, r3⟩ := hY i x H' c2 _ (List.getElem?_eq_getElem hi) e2.wk w2 y
    rw [← hw3] at h2
    refine rg c3 x (.d ds[i]) σ δ2 _ (s2.mono e3) w3 (show RepRV c3 (.d _) x from r3) (wpM_mono (wpM_bind.mp h2) (fun δ4 W4 h4 σ4 c4 hw e4 w4 s4 _ _ => ?_) fun _ _ q => q.mono e3)
    subst hw
    refine rt c4 σ4 δ4 _ s4 w4 (wpM_mono (wpM_bind.mp h4) (fun p W5 h5 => ?_) fun _ _ q => (q.mono e3).mono e4)
    obtain ⟨f, δ5⟩ := p
    cases f with
    | nx =>
      intro σ5 c5 hw e5 w5 s5
      subst hw
      exact ⟨c5, δ5, rfl, ((e2.trans e3).trans e4).trans e5, w5, s5, wpM_mono h5 (fun _ _ q => ((q.mono e3).mono e4).mono e5) fun _ _ q => ((q.mono e3).mono e4).mono e5⟩
    | ct =>
      intro σ5 c5 hw e5 w5 s5
      subst hw
      exact ⟨c5, δ5, rfl, ((e2.trans e3).trans e4).trans e5, w5, s5, wpM_mono h5 (fun _ _ q => ((q.mono e3).mono e4).mono e5) fun _ _ q => ((q.mono e3).mono e4).mono e5⟩
    | bk => exact fun σ5 c5 hw e5 w5 s5 => h5 σ5 c5 hw ((e3.trans e4).trans e5) w5 s5
    | rt v => exact fun x c5 hw e5 w5 r5 => h5 x c5 hw ((e3.trans e4).trans e5) w5 r5
  · rintro σ H ⟨c2, δ2, rfl, e2, w2, s2, h2⟩
    rw [List.drop_length] at h2
    exact h2 σ c2 rfl (Ext.refl c2) w2 s2
/-- a dict that never changes -/
def dicP (W : Wd) : RV → Option (List (Key × D) ⊕ List (List Key × D))
  | .d (.dK kvs) => some (.inl kvs)
  | .d (.dT kvs) => some (.inr kvs)
  | .r l => match W[l]? with
    | some (.fz (.dK kvs)) => some (.inl kvs)
    | some (.fz (.dT kvs)) => some (.inr kvs)
    | _ => none
  | _ => none
theorem dicP_ok {c : Cf} {u : RV} {x : V} {m : List (Key × D) ⊕ List (List Key × D)} (w : WOk c) (r : RepRV c u x) (h : dicP c.W u = some m) : ∃ a, x = .ref a ∧ ¬ Av c a ∧ match m with
    | .inl kvs => ∃ ws, Rd c.H a (.dK ws) ∧ RepP c kvs ws
    | .inr kvs => ∃ ws, Rd c.H a (.dT ws) ∧ RepP c kvs ws := by
  cases u with
  | d y =>
    cases y <;> try (cases h; done)
    case dK kvs => cases h; obtain ⟨a, ws, rfl, h1, n, h2⟩ := r; exact ⟨a, rfl, n, ws, h1, repK_p.mp h2⟩
    case dT kvs => cases h; obtain ⟨a, ws, rfl, h1, n, h2⟩ := r; exact ⟨a, rfl, n, ws, h1, repT_p.mp h2⟩
  | r l =>
    obtain ⟨rfl, hl⟩ := r
    simp only [dicP] at h
    split at h
    · rename_i kvs e
      cases h
      obtain ⟨a, ws, ea, h1, n, h2⟩ := w.obj l _ e
      exact ⟨a, ea, n, ws, h1, repK_p.mp h2⟩
    · rename_i kvs e
      cases h
      obtain ⟨a, ws, ea, h1, n, h2⟩ := w.obj l _ e
      exact ⟨a, ea, n, ws, h1, repT_p.mp h2⟩
    · cases h
def DicRep (c : Cf) (u : HO) : List (Key × D) ⊕ List (List Key × D) → Prop
  | .inl kvs => ∃ ws, u = .dK ws ∧ RepP c kvs ws
  | .inr kvs => ∃ ws, u = .dT ws ∧ RepP c kvs ws
/-- for key in name: no exception leaves it -/
def evForD (i : Nat) (T : RV → Env → M Env) (B : Env → M (Fl × Env)) (δ : Env) : M (Fl × Env) := (M.look fun W => match δ[i]? with
  | some (some rv) => (dicP W rv).map dkeys
  | _ => none).bind fun ds => noEr (goFor T B ds δ)
theorem kp_P {κ : Type} {c c' : Cf} (e : Kp c c') {kvs : List (κ × D)} {ws : List (κ × V)} (r : RepP c kvs ws) : RepP c' kvs ws := Paired.mapP r fun _ _ q => ⟨q.1, Rep.monoK e _ _ q.2⟩
theorem rd_forD {i : Nat} (rg : RdG G g vs T) (rt : RdS G tb B) : RdS G (fun D σ H => tLock (tFor (iKeys (tVar i)) g tb) D σ H ∨ tFor (iKeys (tVar i)) g tb D σ H) (evForD i T B) := by
  intro c σ δ D s w h
  obtain ⟨ds, hds, h1⟩ := wpM_look (wpM_bind.mp h)
  have h1 : wpM (goFor T B ds δ) c.W (QS c D) (fun _ _ => False) := wpM_noEr h1
  split at hds
  · rename_i rv hrv
    obtain ⟨m, hm, rfl⟩ := Option.map_eq_some_iff.mp hds
    obtain ⟨v, hv, rr⟩ := s.get i rv hrv
    obtain ⟨a, rfl, n, hd⟩ := dicP_ok w rr hm
    -- with the lock, a walk
    have go : ∀ (c' : Cf) (D' : Ends) (od : Obj) (u : HO), c'.H a = some (.frz od u) → ¬ Av c' a → DicRep c' u m → WOk c' → SOk σ δ c' → wpM (goFor T B (dkeys m) δ) c'.W (QS c' D') (fun _ _ => False) → tFor (iKeys (tVar i)) g tb D' σ c'.H := fun c' D' od u hu n' hm' w' s' h' => by
      have h'' := wpM_mono (E' := QE G c') h' (fun _ _ q => q) (fun _ _ q => q.elim)
      cases m with
      | inl kvs =>
        obtain ⟨ws, rfl, r⟩ := hm'
        exact for_core rg rt (src_keys hu n' r) w' s' h'' fun R hR => ⟨_, hv, a, od, rfl, .inl ⟨ws, hu, hR⟩⟩
      | inr kvs =>
        obtain ⟨ws, rfl, r⟩ := hm'
        exact for_core rg rt (src_keysT hu n' r) w' s' h'' fun R hR => ⟨_, hv, a, od, rfl, .inr ⟨ws, hu, hR⟩⟩
    have main : ∀ u : HO, Rd c.H a u → IsDic u → Mut (some u) → DicRep c u m → tLock (tFor (iKeys (tVar i)) g tb) D σ c.H ∨ tFor (iKeys (tVar i)) g tb D σ c.H := fun u hu du mu hm' => by
      rcases hu with hu | ⟨od, hu⟩
      · refine .inl ⟨a, u, hu, mu, fun od => ?_⟩
        have lk := lk_of (x := .frz od u) hu n (.inr (.inl ⟨od, du, rfl⟩))
        have back : ∀ c4 : Cf, Ext ⟨upd c.H a (.frz od u), c.ren, c.W, c.Ao⟩ c4 → WOk c4 → c4.H a = some (.frz od u) ∧ Ext c ⟨upd c4.H a u, c4.ren, c4.W, c4.Ao⟩ ∧ Lk c4 ⟨upd c4.H a u, c4.ren, c4.W, c4.Ao⟩ := fun c4 e4 w4 => by
          obtain ⟨k, n4, e5⟩ := unlock_ext hu n e4
          exact ⟨k, e5, lk_of k n4 (.inr (.inr ⟨od, u, du, rfl, rfl⟩))⟩
        refine go ⟨upd c.H a (.frz od u), c.ren, c.W, c.Ao⟩ _ od u upd_same n ?_ (lk.ok w) (lk.env s) (wpM_mono h1 (fun p W' q => ?_) fun _ _ q => q)
        · cases m with
          | inl kvs => obtain ⟨ws, e, r⟩ := hm'; exact ⟨ws, e, kp_P lk.kp r⟩
          | inr kvs => obtain ⟨ws, e, r⟩ := hm'; exact ⟨ws, e, kp_P lk.kp r⟩
        · obtain ⟨f, δ'⟩ := p
          cases f with
          | nx => intro σ' c4 hw e4 w4 s4; obtain ⟨k, e5, l5⟩ := back c4 e4 w4; exact ⟨k, q σ' ⟨upd c4.H a u, c4.ren, c4.W, c4.Ao⟩ hw e5 (l5.ok w4) (l5.env s4)⟩
          | ct => intro σ' c4 hw e4 w4 s4; obtain ⟨k, e5, l5⟩ := back c4 e4 w4; exact ⟨k, q σ' ⟨upd c4.H a u, c4.ren, c4.W, c4.Ao⟩ hw e5 (l5.ok w4) (l5.env s4)⟩
          | bk => intro σ' c4 hw e4 w4 s4; obtain ⟨k, e5, l5⟩ := back c4 e4 w4; exact ⟨k, q σ' ⟨upd c4.H a u, c4.ren, c4.W, c4.Ao⟩ hw e5 (l5.ok w4) (l5.env s4)⟩
          | rt v => intro x c4 hw e4 w4 r4; obtain ⟨k, e5, l5⟩ := back c4 e4 w4; exact ⟨k, q x ⟨upd c4.H a u, c4.ren, c4.W, c4.Ao⟩ hw e5 (l5.ok w4) (l5.rv r4)⟩
      · exact .inr (go c D od u hu n hm' w s h1)
    cases m with
    | inl kvs =>
      obtain ⟨ws, hr, r⟩ := hd
      exact main (.dK ws) hr trivial trivial ⟨ws, rfl, r⟩
    | inr kvs =>
      obtain ⟨ws, hr, r⟩ := hd
      exact main (.dT ws) hr trivial trivial ⟨ws, rfl, r⟩
  · cases hds
end
section
variable {ι : Type} {𝒳 : ι → Cx} {G : Gh} {tg : Expr} {body : List Stmt} {vs : List Nat} {T : RV → Env → M Env} {B : Env → M (Fl × Env)} {p pos : Pos}
theorem ds_forD (i : Nat) {x : Str} (hp : ∀ i, PassesOwn (model (𝒳 i).prog (𝒳 i).w) (𝒳 i).A (𝒳 i).env (𝒳 i).xe) (hc : ∀ i, (𝒳 i).calm = true) (hN : ∀ k, (𝒳 k).N[i]? = some x := by intro _; rfl) (hv : ∀ k, Vis (𝒳 k).env.scope x := by intro _; first | exact Or.inl rfl | exact Or.inr (Or.inl rfl) | exact Or.inr (Or.inr rfl)) (hg : DG 𝒳 G tg vs T) (hb : DSs 𝒳 G body B)
    (hd : (x == ("__debug__" : Str)) = false := by decide) (hcd : (x == ("__classdict__" : Str)) = false := by decide) (hs : ∀ i, ∀ y, foldedSetIterable (.Name x p) (𝒳 i).env y = pure y := by intro _ _; rfl) : DS 𝒳 G (.For tg (.Name x p) body [] pos) (evForD i T B) := by
  obtain ⟨g, pg, rg⟩ := hg
  obtain ⟨t, pt, rt⟩ := hb
  refine ⟨_, fun k => ?_, rd_forD (i := i) rg rt⟩
  have h := ps_for (pos := pos) (hp k) (hc k) (pi_keys (pe_var (pos := p) (hN k) (hv k) hd hcd)) (pg k) (pt k) (hs k)
  exact ⟨fun pins s σ H D I hw => hw.elim ((ps_lock h).run pins s σ H D I) (h.run pins s σ H D I)⟩
end
end DL
set_option Elab.async false
set_option linter.all false
set_option maxRecDepth 100000
set_option maxHeartbeats 4000000
/-! DL33: the keys of a dict as a list. -/
namespace DL
open PySem PySem.Spec PyProof.Rows L2
def bKeysT (mk : Bool) : List RV → M RV
  | [u] => (M.look fun W => match dicOf W u with | some (.inr kvs) => some kvs | _ => none).bind fun kvs => newL mk (kvs.map fun p => RV.d (.tup (p.1.map kD)))
  | _ => M.fail
section
variable {G : Gh}
theorem cd_listT {mk : Bool} : CallD G (fun xs H Q => ∃ d kvs, xs = [V.ref d] ∧ Rd H d (.dT kvs) ∧ ∀ p bs, H p = none → IsKeys H kvs bs → Q (.ref p) (upd H p (.lst (bs.map V.ref)))) (bKeysT mk) := by
  intro c xs us Q w ru h
  match us, ru, h with
  | [], _, h => exact h.elim
  | _ :: _ :: _, _, h => exact h.elim
  | [u], ru, h =>
    obtain ⟨x, rfl, r⟩ := vs1 ru
    obtain ⟨kvs, hk, q⟩ := wpM_look (wpM_bind.mp h)
    split at hk
    · rename_i kvs' e
      cases hk
      obtain ⟨a, rfl, ws, h1, h2⟩ := dicOf_ok w r e
      refine ⟨a, ws, rfl, h1, fun p bs hp hb => ?_⟩
      refine newL_ok w ?_ q p hp
      have h2' : RepP c kvs ws := h2
      clear q e h1 r ru h h2
      induction h2' generalizing bs with
      | nil => cases hb; exact .nil
      | @cons p1 q1 l₁ l₂ hq t ih =>
        cases hb with
        | cons hb1 hbt =>
          refine .cons ?_ (ih _ hbt)
          obtain ⟨k1, y⟩ := p1
          obtain ⟨k2, u⟩ := q1
          obtain ⟨e1, _⟩ := hq
          dsimp only at e1 hb1 ⊢
          subst e1
          exact ⟨_, _, rfl, hb1, w.tup hb1, kDs_rep k1⟩
    · cases hk
end
end DL
set_option Elab.async false
set_option linter.all false
set_option maxRecDepth 100000
set_option maxHeartbeats 4000000
/-! DL34: dict(pairs), the keys tuples. -/
namespace DL
open PySem PySem.Spec PyProof.Rows L2
def mergeT (kvs more : List (List Key × V)) : List (List Key × V) := more.foldl (fun acc kv => putK acc kv.1 kv.2) kvs
theorem KT.merge {H : Hp} : ∀ {more : List (List Key × V)} {rs : List (List Key × Addr × Value)} {kvs : List (List Key × V)} {xs : List (List Key × Addr × Value)}, KT H more rs → KT H kvs xs → KT H (mergeT kvs more) (storedAllH xs rs)
  | [], _, _, _, .nil, h => h
  | p :: more, q :: rs, kvs, xs, .cons ⟨e, hb, rv⟩ t, h => by
    show KT H (mergeT (putK kvs p.1 p.2) more) (storedAllH (storedH xs q.1 q.2.1 q.2.2) rs)
    rw [← e]
    exact KT.merge t (h.put p.1 hb rv)
theorem mergeT_length : ∀ (more kvs : List (List Key × V)), (mergeT kvs more).length ≤ kvs.length + more.length
  | [], kvs => by simp [mergeT]
  | p :: more, kvs => by
    have h := mergeT_length more (putK kvs p.1 p.2)
    have := length_putK kvs p.1 p.2
    show (mergeT (putK kvs p.1 p.2) more).length ≤ _
    rw [List.length_cons]
    omega
section
variable {X : Cx}
theorem pairsT_of {pins : List (Addr × Obj)} {σ : L2.St} {H : Hp} {s : Shared} (I : Inv X pins σ H s) : ∀ {ps : List Addr} {kvs : List (List Key × V)}, Paired (fun p kv => ∃ b, H p = some (.tup [.ref b, kv.2]) ∧ H b = some (.tup (kv.1.map kV))) ps kvs →
    ∃ prs : List (List Key × Addr × Value), KT H kvs prs ∧ prs.length = ps.length ∧ ∀ (j : Nat) (q : List Key × Addr × Value), prs[j]? = some q → ∃ p, ps[j]? = some p ∧ s.heap.IsTuple p #[.ref q.2.1, q.2.2]
  | _, _, .nil => ⟨[], .nil, rfl, fun j q e => by simp at e⟩
  | _, _, .cons (a := p) (b := kv) ⟨b, h, hb⟩ t => by
    obtain ⟨prs, r, hl, hp⟩ := pairsT_of I t
    obtain ⟨its, rv, ht, _⟩ := I.tuple (SqT.of h)
    obtain ⟨u, y, ei, ru, ry⟩ := vals2 rv
    subst ei
    cases (show u = Value.ref b from ru)
    refine ⟨(kv.1, b, y) :: prs, .cons ⟨rfl, hb, ry⟩ r, by rw [List.length_cons, List.length_cons, hl], fun j q e => ?_⟩
    cases j with
    | zero =>
      have e' : (kv.1, b, y) = q := Option.some.inj e
      subst e'
      exact ⟨p, rfl, ht⟩
    | succ j =>
      obtain ⟨p', e1, e2⟩ := hp j q (by simpa using e)
      exact ⟨p', by simpa using e1, e2⟩
theorem call_dictPT (hcalm : X.calm = true) (hu : X.A.units + 64 < cLine) : CallR X (.type "dict") (fun xs H Q => ∃ (a : Addr) (ps : List Addr) (kvs : List (List Key × V)), xs = [.ref a] ∧ SqL X.K H a (ps.map V.ref) ∧ Paired (fun p kv => ∃ b, H p = some (.tup [.ref b, kv.2]) ∧ H b = some (.tup (kv.1.map kV))) ps kvs ∧
    ∀ p, H p = none → Q (.ref p) (upd H p (.dT (mergeT [] kvs)))) := by
  intro pins s σ H xs us Q I r q
  obtain ⟨a, ps, kvs, ex, hq, hp, q⟩ := q
  subst ex
  obtain ⟨u, eu, rx⟩ := vals1 r
  subst eu
  cases rx
  obtain ⟨its, rv, pl, hz⟩ := I.list hq
  have ei := refs_at rv
  subst ei
  rw [List.length_map] at hz
  obtain ⟨prs, rel, hl, hpr⟩ := pairsT_of I hp
  have hkey : ∀ x ∈ prs, (tupleKind (mixKind X.prog X.w)).is s.heap x.1 x.2.1 := by
    have all : ∀ {l : List (List Key × V)} {m : List (List Key × Addr × Value)}, KT H l m → ∀ x ∈ m, (tupleKind (mixKind X.prog X.w)).is s.heap x.1 x.2.1 := by
      intro l m q
      induction q with
      | nil => intro x hx; exact nomatch hx
      | @cons p q ps qs hq t ih =>
        intro x hx
        rcases List.mem_cons.mp hx with e | hx
        · subst e
          exact key_of I.hok (by rw [← hq.1]; exact hq.2.1)
        · exact ih x hx
    exact all rel
  refine call_dict_pairsH (knd := tupleKind (mixKind X.prog X.w)) (ps := prs) (PairArg.list a (ps.map Value.ref).toArray (fun j => ps.getD j 0) (prs.map fun q => (Value.ref q.2.1, q.2.2))) (I.ok.hd hcalm) (by show X.A.units + 1 + 1 < cLine; omega) ⟨pl, ?_, fun j k v hj => ?_⟩ ⟨by simp, fun i key v h => ?_⟩ (fun h' hk x hx => ?_) (by rw [List.length_map, hl]; exact hz) fun h' tk hd' k => ?_
  · simp [hl]
  · rw [List.getElem?_map] at hj
    obtain ⟨q, hq, e⟩ := Option.map_eq_some_iff.mp hj
    cases e
    obtain ⟨p, e1, e2⟩ := hpr j q hq
    have e3 : ps.getD j 0 = p := by simp [List.getD, e1]
    exact ⟨by simp [e1, e3], .inl (by show s.heap.IsTuple (ps.getD j 0) _; rw [e3]; exact e2)⟩
  · have h : (prs.map fun q => (Value.ref q.2.1, q.2.2))[i]? = some (key, v) := h
    rw [List.getElem?_map] at h
    obtain ⟨q, hq, e⟩ := Option.map_eq_some_iff.mp h
    cases e
    exact ⟨q.1, q.2.1, hq, rfl⟩
  · obtain ⟨o, its, n, h1, h2⟩ := hkey x hx
    exact ⟨o, its, n, hk _ _ (Nat.ne_of_lt (Heap.lt_size h1)) (fun z => nomatch z) h1, h2⟩
  · have hm : (s.heap.objs.size == sysModules) = false := beq_eq_false_iff_ne.mpr (Nat.ne_of_gt I.big)
    have hlen : (mergeT [] kvs).length ≤ sizeLine := by
      refine Nat.le_trans (mergeT_length kvs []) ?_
      rw [List.length_nil, Nat.zero_add, Paired.length rel, hl]
      exact hz
    obtain ⟨q', es, ep, hq', h2, h3, h4, _, h5⟩ := hd'
    have hfresh : H s.heap.objs.size = none := I.hok.fresh (Nat.le_refl _)
    refine ⟨.ref s.heap.objs.size, upd H s.heap.objs.size (.dT (mergeT [] kvs)), I.laid (t' := tk) (fun b o e => k b o (fun z => nomatch z) e) (Nat.le_refl _) (show ObjOk X.prog X.w _ _ _ (.dT (mergeT [] kvs)) from ⟨hlen, hm, storedAllH [] prs, (KT.merge rel .nil).keeps fun c ys ec => ?_, q', es, ep, hq', h2, h3, h4, h5⟩), rfl, q _ hfresh⟩
    first
      | exact ec
      | (rw [upd_ne (fun z => by rw [z, hfresh] at ec; cases ec)]; exact ec)
end
end DL
set_option Elab.async false
set_option linter.all false
set_option maxRecDepth 100000
set_option maxHeartbeats 4000000
/-! DL35: dict(pairs), read. -/
namespace DL
open PySem PySem.Spec PyProof.Rows L2
def pairsBy {κ : Type} (key : D → Option κ) : List D → Option (List (κ × D))
  | [] => some []
  | .tup [kx, v] :: r => (key kx).bind fun k => (pairsBy key r).map ((k, v) :: ·)
  | _ => none
def mergeD {κ : Type} [DecidableEq κ] (kvs more : List (κ × D)) : List (κ × D) := more.foldl (fun acc kv => putD acc kv.1 kv.2) kvs
def newDT (mk : Bool) (kvs : List (List Key × D)) : M RV := if mk then fun W => some (.ok (.r W.length), W ++ [.dT kvs]) else M.ret (.d (.dT kvs))
def newDK (mk : Bool) (kvs : List (Key × D)) : M RV := if mk then fun W => some (.ok (.r W.length), W ++ [.dK kvs]) else M.ret (.d (.dK kvs))
def lstOf : D → Option (List D)
  | .lst xs => some xs
  | _ => none
def bDictT (mk : Bool) : List RV → M RV
  | [u] => (toD u).bind fun x => (M.opt ((lstOf x).bind (pairsBy keysOf))).bind fun kvs => newDT mk (mergeD [] kvs)
  | _ => M.fail
def bDictK (mk : Bool) : List RV → M RV
  | [u] => (toD u).bind fun x => (M.opt ((lstOf x).bind (pairsBy keyOf))).bind fun kvs => newDK mk (mergeD [] kvs)
  | _ => M.fail
section
variable {G : Gh} {c : Cf}
theorem newDT_ok {mk : Bool} {kvs : List (List Key × D)} {ws : List (List Key × V)} {Q : VK} {E : DX → Wd → Prop} (w : WOk c) (r : RepP c kvs ws) (h : wpM (newDT mk kvs) c.W (QV c Q) E) : ∀ p, c.H p = none → Q (.ref p) (upd c.H p (.dT ws)) := by
  intro p hp
  cases mk with
  | false =>
    obtain ⟨e, w2⟩ := w.lay (o := .dT ws) hp
    exact h (.ref p) (c.lay p (.dT ws)) rfl e w2 ⟨p, ws, rfl, .inl upd_same, w.layAv hp, RepT.monoW e.wk _ _ (repT_p.mpr r)⟩
  | true =>
    have e := Ext.new (c := c) (o := .dT ws) (m := .dT kvs) hp
    refine h (.ref p) (c.new p (.dT ws) (.dT kvs)) rfl e (w.new hp ⟨ws, upd_same, RepT.monoW e.wk _ _ (repT_p.mpr r)⟩) ⟨by rw [ren_last], ?_⟩
    show c.W.length < (c.W ++ [_]).length
    simp
theorem newDK_ok {mk : Bool} {kvs : List (Key × D)} {ws : List (Key × V)} {Q : VK} {E : DX → Wd → Prop} (w : WOk c) (r : RepP c kvs ws) (h : wpM (newDK mk kvs) c.W (QV c Q) E) : ∀ p, c.H p = none → Q (.ref p) (upd c.H p (.dK ws)) := by
  intro p hp
  cases mk with
  | false =>
    obtain ⟨e, w2⟩ := w.lay (o := .dK ws) hp
    exact h (.ref p) (c.lay p (.dK ws)) rfl e w2 ⟨p, ws, rfl, .inl upd_same, w.layAv hp, RepK.monoW e.wk _ _ (repK_p.mpr r)⟩
  | true =>
    have e := Ext.new (c := c) (o := .dK ws) (m := .dK kvs) hp
    refine h (.ref p) (c.new p (.dK ws) (.dK kvs)) rfl e (w.new hp ⟨ws, upd_same, RepK.monoW e.wk _ _ (repK_p.mpr r)⟩) ⟨by rw [ren_last], ?_⟩
    show c.W.length < (c.W ++ [_]).length
    simp
theorem repP_merge {κ : Type} [DecidableEq κ] : ∀ {more : List (κ × D)} {ms : List (κ × V)} {kvs : List (κ × D)} {ws : List (κ × V)}, RepP c more ms → RepP c kvs ws → RepP c (mergeD kvs more) (ms.foldl (fun acc kv => putK acc kv.1 kv.2) ws)
  | [], _, _, _, .nil, h => h
  | (k, x) :: more, (k2, v) :: ms, kvs, ws, .cons ⟨e, rv⟩ t, h => by
    dsimp only at e
    subst e
    exact repP_merge (more := more) (ms := ms) t (repP_put rv h)
theorem pairsT_rep : ∀ {xs : List D} {vs : List V} {kvs : List (List Key × D)}, RepL c xs vs → pairsBy keysOf xs = some kvs → ∃ (ps : List Addr) (ws : List (List Key × V)), vs = ps.map V.ref ∧ RepP c kvs ws ∧ Paired (fun p kv => ∃ b, c.H p = some (.tup [.ref b, kv.2]) ∧ c.H b = some (.tup (kv.1.map kV))) ps ws
  | [], vs, kvs, r, h => by
    cases h
    cases r
    exact ⟨[], [], rfl, .nil, .nil⟩
  | x :: xs, _, kvs, ⟨v, r', rfl, h1, h2⟩, h => by
    unfold pairsBy at h
    split at h
    · cases ‹_ :: _ = []›
    · rename_i kx y r e
      cases e
      simp only [Option.bind_eq_some_iff, Option.map_eq_some_iff] at h
      obtain ⟨k, hk, rest, hrest, rfl⟩ := h
      obtain ⟨ps, ws, rfl, h3, h4⟩ := pairsT_rep h2 hrest
      obtain ⟨p, us, rfl, h5, _, h6⟩ := h1
      obtain ⟨kv, r2, rfl, h7, h8⟩ := h6
      obtain ⟨yv, r3, rfl, h9, h10⟩ := h8
      cases h10
      obtain ⟨b, rfl, hb⟩ := keysOf_ok h7 hk
      exact ⟨p :: ps, (k, yv) :: ws, rfl, .cons ⟨rfl, h9⟩ h3, .cons ⟨b, h5, hb⟩ h4⟩
    · cases h
theorem cd_dictT {mk : Bool} : CallD G (fun xs H Q => ∃ (a : Addr) (ps : List Addr) (kvs : List (List Key × V)), xs = [.ref a] ∧ SqL G.K H a (ps.map V.ref) ∧ Paired (fun p kv => ∃ b, H p = some (.tup [.ref b, kv.2]) ∧ H b = some (.tup (kv.1.map kV))) ps kvs ∧
    ∀ p, H p = none → Q (.ref p) (upd H p (.dT (mergeT [] kvs)))) (bDictT mk) := by
  intro c xs us Q w ru h
  match us, ru, h with
  | [], _, h => exact h.elim
  | _ :: _ :: _, _, h => exact h.elim
  | [u], ru, h =>
    obtain ⟨x, rfl, r⟩ := vs1 ru
    obtain ⟨c1, d, hH, e1, w1, r1, q⟩ := toD_ok w r (wpM_bind.mp h)
    obtain ⟨kvs, hk1, q2⟩ := wpM_opt (wpM_bind.mp q)
    obtain ⟨ys, hy, hk⟩ := Option.bind_eq_some_iff.mp hk1
    cases d <;> try (cases hy; done)
    case lst zs =>
      cases hy
      obtain ⟨a, vs, rfl, h1, _, h2⟩ := r1
      obtain ⟨ps, ws, rfl, h3, h4⟩ := pairsT_rep h2 hk
      rw [← hH]
      exact ⟨a, ps, ws, rfl, SqL.of h1, h4, newDT_ok w1 (repP_merge h3 .nil) (wpM_mono q2 (fun _ _ q => q.mono e1) fun _ _ q => q.mono e1)⟩
end
end DL
set_option Elab.async false
set_option linter.all false
set_option maxRecDepth 100000
set_option maxHeartbeats 4000000
/-! DL36: raise C(x), C an exception of the program that keeps what it is made with. -/
namespace DL
open PySem PySem.Spec PyProof.Rows L2
def M.throw {α : Type} (e : DX) : M α := fun W => some (.error e, W)
/-- what its __init__ does: self.f = the thing -/
def spKeep (K : PySem.W.Frag) (C : Addr) (f : Str) : Sp := fun vs H Q _ => ∃ a v, vs = [.ref a, v] ∧ H a = some (exo a C none) ∧ ∀ dx, H dx = none → dx ≠ a → Q .non (upd (upd H dx (exd dx [(f, v)])) a (exo a C (some dx)))
structure RaiD (P : Program) (w : World) (K : PySem.W.Frag) (mg : Str → Option Value) (base : Heap) (k : Nat) (x : Str) (C : Addr) (f : Str) : Prop where
  oex : OexC K C
  ex : ∃ (fI : Addr) (fd : FuncData) (ps : List Str), FnOk P w K mg base (L2N.CX P w) k fI fd ps (spKeep K C f) ∧ PySem.W.findIn K (.ref C) "__init__" = some (some (.ref fI)) ∧ PySem.W.typeIn K (.ref fI) = some (.type "function") ∧ Binds K fd ps []
  mg : mg x = some (.ref C)
def evRaise (cls f : Str) (Fe : Env → M RV) (δ : Env) : M (Fl × Env) := (Fe δ).bind fun v => (toD v).bind fun x => M.throw ⟨cls, [(f, x)]⟩
/-- C(x) made: the context of what is made is None -/
theorem pmk_oexN {X : Cx} {CX : CXT} {x : Str} {e : Expr} {es : List Expr} {ta : TA} {p pos : Pos} {C fI : Addr} {k : Nat} {fd : FuncData} {ps : List Str} {sp : Sp} {ds : List Value} {dvs : List V} (T : OexC X.K C) (iC : PySem.W.findIn X.K (.ref C) "__init__" = some (some (.ref fI))) (tI : PySem.W.typeIn X.K (.ref fI) = some (.type "function"))
    (F1 : FnOk X.prog X.w X.K X.mg X.base CX k fI fd ps sp) (hr : Room (k + 1) X.A) (hb : Binds X.K fd ps ds) (hd : Vals dvs ds) (hx : Passes CX X (fun _ _ _ => False)) (hg : Gl X x) (hm : X.mg x = some (.ref C)) (ha : PA X (e :: es) ta)
    (hdb : (x == ("__debug__" : Str)) = false := by decide) (he : starEach (e :: es) X.env = (false, eval e X.env) :: starEach es X.env := by rfl) (hpl : (backTo pos (starEach es X.env)).any (·.1) = false := by rfl) :
    L2N.PMk X (.Call (.Name x p) (e :: es) [] pos) (tMkO C sp dvs ta) := by
  intro pins s σ H Q I h
  obtain ⟨nm, q, N, bs, bm, sn, sub, ab, col, dd, k0, k1, k2, k3, k5, hC, hbm⟩ := T.cls
  refine wpAny_Call_Name_kw (ld_glob I hg hm (PySem.W.callWith_K (h₀ := X.base) I.ok.mod.kin T.kC (thn (ha.run pos pins s σ H _ I h) fun us s1 ⟨vs, H1, I1, r1, hz, q1⟩ => ⟨I1.kIn, ?_⟩) he hpl) hdb)
  show wpAny _ _ (call (.ref C) us) _ _ _
  obtain ⟨hp, g, dr, tk, os⟩ := s1
  have hsz : hp.objs.size ≤ hp.objs.size + 1 := Nat.le_succ _
  have hq := q1 (hp.objs.size + 1) (I1.hok.fresh hsz)
  have kk : ∀ b o, hp.get? b = some o → ((hp.push (PySem.W.kdv_tup us)).push (PySem.HandSPX.excO C hp.objs.size)).get? b = some o := fun b o e => Heap.get?_push_of_some _ (Heap.get?_push_of_some _ e)
  have hget : ((hp.push (PySem.W.kdv_tup us)).push (PySem.HandSPX.excO C hp.objs.size)).get? (hp.objs.size + 1) = some (PySem.HandSPX.excO C hp.objs.size) := by heap_get
  have I2 := I1.laid (t' := tk) (a := hp.objs.size + 1) (o := exo (hp.objs.size + 1) C none) (h' := (hp.push (PySem.W.kdv_tup us)).push (PySem.HandSPX.excO C hp.objs.size)) kk hsz (exo_ok hget)
  have r2 : Vals (V.ref (hp.objs.size + 1) :: (vs ++ dvs)) (Value.ref (hp.objs.size + 1) :: (us ++ ds)) := .cons rfl (r1.append hd)
  have hl : (Value.ref (hp.objs.size + 1) :: us ++ ds).length = ps.length := by
    have e := r2.length
    rw [F1.len _ _ _ _ hq] at e
    exact e.symm
  have hus : us.length ≤ sizeLine := by rw [← Paired.length r1, sizeLine_eq]; omega
  refine wpAny_call (PySem.HandSPX.call_own F.excBase_ValueError (fun Y => PySem.HandSPX.refsVE_contains Y bm hbm) (I1.kIn _ _ hC) (PySem.W.looks_findIn I1.kIn iC) (fun self => PySem.W.bind_fn I1.kIn self tI) hus
    (codeAny_mono (F1.run _ X.stack _ _ ⟨Value.ref (hp.objs.size + 1) :: us, []⟩ (Value.ref (hp.objs.size + 1) :: (us ++ ds)) _ _ (fun _ _ _ => False) (hr.make C us []) (I2.env0.make C us []) (hb _ (Value.ref (hp.objs.size + 1) :: us) I2.kIn hl) r2 hq) fun r s' hq' => ?_))
  match r, hq' with
  | .error er, hq' => exact hx pins σ _ _ er s' I2 hq'
  | .ok (.ret u), hq' =>
    obtain ⟨v, H2, os2, bare2, un2, hok2, rv, ev, d, fs, ea, ed, hd1, q2⟩ := hq'
    subst ev
    obtain ⟨h2, g2, d2, t2, os'⟩ := s'
    obtain ⟨t0, G, J, kG, ge, hoe, na⟩ := mk_end0 (d2 := d2) (t2 := t2) I1 hsz kk un2 hok2 os2 bare2 ea ed hd1
    exact ⟨rv, _, _, _, ⟨G, g2, d2, t2, os'⟩, _, .ref C, some d, rfl, J, kG, ge, hoe, ⟨rfl, rfl, fun vs e => by cases e; rfl⟩, rfl, rfl, na, rfl, bare2, raises_own T.exC T.tyC, q2⟩
  | .ok .next, hq' => exact False.elim hq'
  | .ok .brk, hq' => exact False.elim hq'
  | .ok .cont, hq' => exact False.elim hq'
section
variable {ι : Type} {𝒳 : ι → Cx} {G : Gh} {e : Expr} {x f : Str} {C : Addr} {Fe : Env → M RV} {p pos pos' : Pos} {j k : Nat}
theorem rd_raise {te : TE} (hcv : G.cv x = .ref C) (re : RdE G te Fe) : RdS G (fun _ σ H => tMkO C (spKeep G.K C f) [] (tCons te tNil) σ H fun cls d H' => G.Ex cls d H') (evRaise x f Fe) := by
  intro c σ δ D s w h
  refine re c σ δ _ s w (wpM_mono (wpM_bind.mp h) (fun u W1 h1 v c1 hw e1 w1 r1 => ?_) fun _ _ q => q)
  subst hw
  show (1 ≤ 1000) ∧ _
  refine ⟨by decide, fun a ha => ?_⟩
  obtain ⟨c2, d, hH, e2, w2, r2, q⟩ := toD_ok w1 r1 (wpM_bind.mp h1)
  have q : QE G c ⟨x, [(f, d)]⟩ c2.W := q
  refine ⟨a, v, rfl, upd_same, fun dx hdx hne => ⟨rfl, dx, [(f, v)], upd_same, ?_, ?_, ?_⟩⟩
  · rw [upd_ne hne, upd_same]
  · rw [upd_ne hne] at hdx; exact hdx
  · rw [upd_ne hne] at hdx
    have hd2 : c2.H dx = none := by rw [hH]; exact hdx
    obtain ⟨e3, w3⟩ := w2.lay (o := .xd [(f, v)]) hd2
    have hq := q (.ref C) (some dx) (c2.lay dx (.xd [(f, v)])) rfl ((e1.trans e2).trans e3) w3 ⟨hcv.symm, .inl ⟨dx, [(f, v)], rfl, upd_same, w2.layAv hd2, .cons ⟨rfl, Rep.mono e3 _ _ r2⟩ .nil⟩⟩
    have he : (c2.lay dx (.xd [(f, v)])).H = upd (del (upd (upd (upd c1.H a (exo a C none)) dx (exd dx [(f, v)])) a (exo a C (some dx))) a) dx (.xd [(f, v)]) := by
      funext b
      show upd c2.H dx _ b = _
      by_cases hb : b = dx
      · subst hb
        rw [upd_same, upd_same]
      · rw [upd_ne hb, upd_ne hb, hH]
        by_cases hba : b = a
        · subst hba
          rw [del_same]; exact ha
        · rw [del_ne hba, upd_ne hba, upd_ne hb, upd_ne hba]
    rw [he] at hq
    exact hq
theorem ds_raise (hcv : G.cv x = .ref C) (hF : ∀ i, RaiD (𝒳 i).prog (𝒳 i).w (𝒳 i).K (𝒳 i).mg (𝒳 i).base j x C f) (hr : ∀ i, Room (k + 1) (𝒳 i).A) (hx : ∀ i, Passes (L2N.CX (𝒳 i).prog (𝒳 i).w) (𝒳 i) (fun _ _ _ => False)) (tk : ∀ i, L2N.Takes (𝒳 i) (fun cls d _ H => G.Ex cls d H)) (hc : ∀ i, (𝒳 i).calm = true) (hK : ∀ i, (𝒳 i).K = G.K) (he : DE 𝒳 G e Fe)
    (hjk : j ≤ k := by omega) (hg : ∀ i, Gl (𝒳 i) x := by intro _; rfl) (hdb : (x == ("__debug__" : Str)) = false := by decide) (hs : ∀ i, starEach [e] (𝒳 i).env = (false, eval e (𝒳 i).env) :: starEach [] (𝒳 i).env := by intro _; rfl) (hpl : ∀ i, (backTo pos (starEach [] (𝒳 i).env)).any (·.1) = false := by intro _; rfl) :
    DS 𝒳 G (.Raise (some (.Call (.Name x p) [e] [] pos)) none pos') (evRaise x f Fe) := by
  obtain ⟨te, pe, re⟩ := he
  refine ⟨_, fun i => ?_, rd_raise (f := f) hcv re⟩
  obtain ⟨fI, fd, ps, F, iC, tI, hb⟩ := (hF i).ex
  have hm := pmk_oexN (p := p) (pos := pos) (hF i).oex iC tI (F.mono hjk) (hr i) hb .nil (hx i) (hg i) (hF i).mg (pa_cons (pe i) pa_nil (hs i)) hdb (hs i) (hpl i)
  rw [hK i] at hm
  exact L2N.ps_raise (hc i) (tk i) hm
end
end DL
set_option Elab.async false
set_option linter.all false
set_option maxRecDepth 100000
set_option maxHeartbeats 4000000
/-! B1: lists walked while an exception is handled. -/
namespace HotX
open PySem PySem.Spec PyProof.Rows
section
variable {prog : Program} {w : World} {A : Around} {E : Value → Shared → Prop} {s : Shared}
theorem bl_end_hot {it l x1 : Addr} {i : Nat} {items : Array Value} {Q : Option Value → Shared → Prop} (hot : HotAt A x1 s.heap)
    (hit : s.heap.IsListIter it l i) (hl : s.heap.IsList l items) (hx : items[i]? = none)
    (hQ : ∀ h', Heap.ExtBut it s.heap h' → Q none { s with heap := h' }) : wpAny (model prog w) A (pyNext (.ref it)) Q E s := by
  obtain ⟨o, ho, hc, hd⟩ := id hit
  obtain ⟨ol, hol, _, nl, hdl⟩ := hl
  obtain ⟨hh, o1, vs1, h1, d1, c1⟩ := hot
  have hne : x1 ≠ it := fun z => by
    subst z
    rw [ho] at h1
    cases h1
    rw [hd] at d1
    cases d1
    simp at c1
  unfold pyNext
  refine wpAny_bind (wpAny_attempt (wpAny_callSpecial?_slot (name := Str.ofString "__next__") hit.typeIs slot_listiter_next
    (wpAny_call_entry slot_listiter_next hit.typeIs entry_listiter_next ?_ (args_listiter_next _))))
  show wpAny _ _ (field (.ref it) 0 >>= _) _ _ s
  refine wpAny_bind (wpAny_field ho hd (x := .ref l) rfl ?_)
  show wpAny _ _ (if (Value.ref l == Value.none) = true then _ else _) _ _ s
  rw [if_neg (show ¬ ((Value.ref l == Value.none) = true) from Bool.false_ne_true)]
  show wpAny _ _ (field (.ref it) 1 >>= _) _ _ s
  refine wpAny_bind (wpAny_field ho hd (x := .int i 0) rfl ?_)
  show wpAny _ _ (seqItems? (.ref l) >>= _) _ _ s
  refine wpAny_bind (wpAny_seqItems hol hdl ?_)
  simp only [Int.toNat_natCast, hx]
  refine wpAny_bind (wpAny_rule (wpAny_bind (wpAny_setField ho hd (by simp) ?_)))
  show wpAny _ _ (newExc (.type "StopIteration") [] >>= _) _ _ _
  refine wpAny_bind ?_
  simp only [newExc, newTuple]
  refine wpAny_bind (wpAny_newObj_type ?_ (by size_fits))
  refine wpAny_bind (m := firstArgMember _ _) (wpAny_of_eq (a := Value.none) (by first | rfl | (simp only [firstArgMember]; rfl)) ?_)
  refine wpAny_newObj_type ?_ (by size_fits)
  have h2 : (s.heap.update it (Obj.mapFields (·.setIfInBounds 0 .none))).get? x1 = some o1 := by rw [Heap.get?_update_other _ _ hne.symm]; exact h1
  refine raiseNew_hot ⟨hh, o1, vs1, Heap.get?_push_of_some _ (Heap.get?_push_of_some _ h2), d1, c1⟩ (Nat.ne_of_lt (Heap.lt_size (Heap.get?_push_of_some _ h2))) (Heap.get?_push_size _ rfl) rfl (by first | (simp; done) | (simp; omega) | (simp only [Array.size_append]; simp; omega)) ?_
  refine wpAny_bind (wpAny_isInstance (T := "StopIteration") (b := true) ⟨_, Heap.get?_update_self _ (Heap.get?_push_size _ rfl) rfl, rfl⟩ isSubtype_stop ?_)
  refine wpAny_pure (hQ _ fun b o hb e => ?_)
  have e2 : (s.heap.update it (Obj.mapFields (·.setIfInBounds 0 .none))).get? b = some o := by rw [Heap.get?_update_other _ _ (Ne.symm hb)]; exact e
  rw [Heap.get?_update_other _ _ (Nat.ne_of_gt (Heap.lt_size (Heap.get?_push_of_some _ e2)))]
  exact Heap.get?_push_of_some _ (Heap.get?_push_of_some _ e2)
end
end HotX
set_option Elab.async false
set_option linter.all false
set_option maxRecDepth 100000
set_option maxHeartbeats 4000000
/-! B2: a walk over a list while an exception is handled. -/
namespace L2
open PySem PySem.Spec PyProof.Rows L2H
theorem bl_turn {P : Program} {w : World} {K : PySem.W.Frag} {tg : Expr} (a it : Addr) : TurnH P w K tg (Itl K a) [it] it (fun i h => h.IsListIter it a i) where
  mem := List.mem_singleton_self it
  obj := fun i h st b hb => by
    cases List.mem_singleton.mp hb
    obtain ⟨o, ho, _, hd⟩ := st
    refine ⟨o, ho, fun v z => ?_⟩
    rw [hd] at z
    cases z
  keep := fun i h h' st k => st.at fun o ho => k it (List.mem_singleton_self it) o ho
  item := by
    intro X hP hw hK hc i pins s σ H E I hf st hg
    subst hP hw hK
    obtain ⟨xs, x, hq, hx⟩ := hg
    obtain ⟨its, rv, p, _⟩ := I.list hq
    obtain ⟨u, hu, ru⟩ := rv.get hx
    obtain ⟨g0, g1, g2, g3, g4, g5⟩ := hf it (List.mem_singleton_self it)
    refine wpAny_pyNext_list_item st p.isList (x := u) (by simpa using hu) fun h' st' sb => ⟨u, rfl, ?_⟩
    have I2 : Inv X pins σ H { s with heap := h' } := I.turned (t' := s.toks) (fun b o hb ho => (sb.2 b hb).trans ho) g0 g1 g3 g4 g5
    obtain ⟨o, ho, hc', hd⟩ := id st'
    refine go_of (s := { s with heap := h' }) ho hc' hd (by decide) ⟨x, H, I2, ru, ⟨rfl, fun ys hy => ?_⟩, st', fun b hb => (hf b hb).1⟩
    rw [I.list_inj hy hq]
    exact hx
  done := by
    intro X hP hw hK hc i pins s σ H E I hf st hg
    subst hP hw hK
    obtain ⟨xs, hq, hx⟩ := hg
    obtain ⟨its, rv, p, _⟩ := I.list hq
    obtain ⟨g0, g1, g2, g3, g4, g5⟩ := hf it (List.mem_singleton_self it)
    obtain ⟨x1, hot⟩ := hc.at I
    have hl := rv.length
    exact HotX.bl_end_hot hot st p.isList (by simp; omega) fun h' eb => ⟨rfl, I.turned (t' := s.toks) (fun b o hb ho => eb b o hb ho) g0 g1 g3 g4 g5⟩
  self := fun _ _ _ _ _ st h => wpAny_pyIter_listiter st h
theorem bl_pi {X : Cx} {tg l : Expr} {tl : TE} (hl : PE X l tl) : PIH X tg l (iList X.K tl) := by
  refine ⟨fun pins s σ H R I h => thn (hl.run pins s σ H _ I h) fun v s1 ⟨x, H1, I1, r1, q1⟩ => ?_⟩
  obtain ⟨a, rfl, ⟨xs, hq⟩, q⟩ := q1
  cases r1
  obtain ⟨its, rv, p, _⟩ := I1.list hq
  refine wpAny_pyIter_list p.isList ⟨s1.heap.objs.size, [s1.heap.objs.size], _, _, H1, rfl, I1.kept (t' := s1.toks) fun b o ho => Heap.get?_push_of_some _ ho, bl_turn a _, ⟨_, Heap.get?_push_size _ rfl, rfl, rfl⟩, fun b hb => ?_, q⟩
  cases List.mem_singleton.mp hb
  exact I1.fpOk (Nat.le_refl _) (I1.hok.fresh (Nat.le_refl _))
end L2
set_option Elab.async false
set_option linter.all false
set_option maxRecDepth 100000
set_option maxHeartbeats 4000000
/-! B3: while an exception is handled, in blocks too: what is known of it; tuples taken apart; comprehensions. -/
namespace HotX
open PySem PySem.Spec PyProof.Rows
section
variable {prog : Program} {w : World} {A : Around} {E : Value → Shared → Prop} {s : Shared}
theorem tup_end_hot {it t x1 : Addr} {i : Nat} {items : Array Value} {Q : Option Value → Shared → Prop} (hot : HotAt A x1 s.heap)
    (hit : IsTupIter s.heap it t i) (ht : IsTup s.heap t items) (hx : items[i]? = none)
    (hQ : ∀ h', Heap.ExtBut it s.heap h' → Q none { s with heap := h' }) : wpAny (model prog w) A (pyNext (.ref it)) Q E s := by
  obtain ⟨o, ho, hc, hd⟩ := id hit
  obtain ⟨ol, hol, _, nl, hdl⟩ := ht
  obtain ⟨hh, o1, vs1, h1, d1, c1⟩ := hot
  have hne : x1 ≠ it := fun z => by
    subst z
    rw [ho] at h1
    cases h1
    rw [hd] at d1
    cases d1
    simp at c1
  unfold pyNext
  refine wpAny_bind (wpAny_attempt (wpAny_callSpecial?_slot (name := Str.ofString "__next__") hit.typeIs slot_tupleiter_next
    (wpAny_call_entry slot_tupleiter_next hit.typeIs entry_tupleiter_next ?_ (args_tupleiter_next _))))
  show wpAny _ _ (field (.ref it) 0 >>= _) _ _ s
  refine wpAny_bind (wpAny_field ho hd (x := .ref t) rfl ?_)
  show wpAny _ _ (if (Value.ref t == Value.none) = true then _ else _) _ _ s
  rw [if_neg (show ¬ ((Value.ref t == Value.none) = true) from Bool.false_ne_true)]
  show wpAny _ _ (field (.ref it) 1 >>= _) _ _ s
  refine wpAny_bind (wpAny_field ho hd (x := .int i 0) rfl ?_)
  show wpAny _ _ (seqItems? (.ref t) >>= _) _ _ s
  refine wpAny_bind (wpAny_seqItems hol hdl ?_)
  simp only [Int.toNat_natCast, hx]
  refine wpAny_bind (wpAny_rule (wpAny_bind (wpAny_setField ho hd (by simp) ?_)))
  show wpAny _ _ (newExc (.type "StopIteration") [] >>= _) _ _ _
  refine wpAny_bind ?_
  simp only [newExc, newTuple]
  refine wpAny_bind (wpAny_newObj_type ?_ (by size_fits))
  refine wpAny_bind (m := firstArgMember _ _) (wpAny_of_eq (a := Value.none) (by first | rfl | (simp only [firstArgMember]; rfl)) ?_)
  refine wpAny_newObj_type ?_ (by size_fits)
  have h2 : (s.heap.update it (Obj.mapFields (·.setIfInBounds 0 .none))).get? x1 = some o1 := by rw [Heap.get?_update_other _ _ hne.symm]; exact h1
  refine raiseNew_hot ⟨hh, o1, vs1, Heap.get?_push_of_some _ (Heap.get?_push_of_some _ h2), d1, c1⟩ (Nat.ne_of_lt (Heap.lt_size (Heap.get?_push_of_some _ h2))) (Heap.get?_push_size _ rfl) rfl (by first | (simp; done) | (simp; omega) | (simp only [Array.size_append]; simp; omega)) ?_
  refine wpAny_bind (wpAny_isInstance (T := "StopIteration") (b := true) ⟨_, Heap.get?_update_self _ (Heap.get?_push_size _ rfl) rfl, rfl⟩ isSubtype_stop ?_)
  refine wpAny_pure (hQ _ fun b o hb e => ?_)
  have e2 : (s.heap.update it (Obj.mapFields (·.setIfInBounds 0 .none))).get? b = some o := by rw [Heap.get?_update_other _ _ (Ne.symm hb)]; exact e
  rw [Heap.get?_update_other _ _ (Nat.ne_of_gt (Heap.lt_size (Heap.get?_push_of_some _ e2)))]
  exact Heap.get?_push_of_some _ (Heap.get?_push_of_some _ e2)
theorem HotAt.keeps {x1 : Addr} {h h' : Heap} (hot : HotAt A x1 h) (k : ∀ o, h.get? x1 = some o → h'.get? x1 = some o) : HotAt A x1 h' := by
  obtain ⟨hh, o1, vs1, h1, d1, c1⟩ := hot
  exact ⟨hh, o1, vs1, k _ h1, d1, c1⟩
theorem unpack_tup_hot {t x1 : Addr} {items : Array Value} {Q : List Value → Shared → Prop} (hot : HotAt A x1 s.heap) (ht : IsTup s.heap t items)
    (hQ : ∀ h', Heap.ExtBut s.heap.objs.size s.heap h' → Q items.toList { s with heap := h' }) : wpAny (model prog w) A (unpackItems (.ref t) items.size none) Q E s := by
  have hlt : t ≠ s.heap.objs.size := by obtain ⟨o, ho, _⟩ := ht; exact Nat.ne_of_lt (Heap.lt_size ho)
  have hx1 : x1 ≠ s.heap.objs.size := by obtain ⟨_, o1, _, h1, _⟩ := hot; exact Nat.ne_of_lt (Heap.lt_size h1)
  unfold unpackItems
  refine wpAny_bind ?_
  unfold notIterableAtAll
  refine wpAny_bind (wpAny_specialOf ht.typeIs slot_tuple_iter.lookup (wpAny_pure ?_))
  simp only [Bool.false_eq_true, if_false]
  refine wpAny_bind (wpAny_holding (iter_tuple ht ?_))
  refine wpAny_bind (wpAny_holding (draw_tuple hlt items.size 0 _ _ ⟨_, Heap.get?_push_size _ rfl, rfl, rfl⟩ (ht.push _) (by omega) fun h₁ hit₁ hs₁ => ?_))
  rw [show List.take items.size (List.drop 0 items.toList) = items.toList by rw [List.drop_zero]; exact List.take_of_length_le (by simp), if_neg (by simp)]
  have kk : ∀ o, s.heap.get? x1 = some o → h₁.get? x1 = some o := fun o e => hs₁.extBut x1 o hx1 (Heap.get?_push_of_some _ e)
  refine wpAny_bind (wpAny_holding (tup_end_hot (hot.keeps kk) hit₁ ((ht.push _).extBut hs₁.extBut hlt) (by simp) fun h₂ he₂ => ?_))
  simp only [Option.isSome_none, Bool.false_eq_true, if_false]
  exact wpAny_pure (hQ h₂ fun b o hb e => he₂ b o hb (hs₁.extBut b o hb (Heap.get?_push_of_some _ e)))
end
end HotX
namespace L2
open PySem PySem.Spec PyProof.Rows L2H HotX
/-- the handled exception is known to the context, or to the state in which a block began -/
def HotB (X : Cx) : Prop := ∃ p : Addr × Obj, Hot1 X.A p ∧ (p ∈ X.pn ∨ (X.s_0.heap.get? p.1 = some p.2 ∧ X.H_0 p.1 = none ∧ p.1 ∉ X.fs ∧ p.1 ∉ X.ex))
theorem HotB.at {X : Cx} {pins : List (Addr × Obj)} {σ : St} {H : Hp} {s : Shared} (c : HotB X) (I : Inv X pins σ H s) : ∃ x1, HotAt X.A x1 s.heap := by
  obtain ⟨p, ⟨hh, v1, e1, c1⟩, hp | ⟨h1, h2, h3, h4⟩⟩ := c
  · exact ⟨p.1, hh, p.2, v1, (I.pin p (List.mem_append_left _ hp)).1, e1, c1⟩
  · exact ⟨p.1, hh, p.2, v1, I.base.keep _ _ h1 h2 h3 h4, e1, c1⟩
/-- what a block's context knows -/
theorem HotC.blk {X : Cx} {pins : List (Addr × Obj)} {σ : St} {H : Hp} {s : Shared} {scope : Scope} {ce : Env} {fp : List Addr} (c : HotC X) (I : Inv X pins σ H s) (hf : ∀ b ∈ fp, FpOk X pins H b) : HotB (X.blk s H scope ce fp) := by
  obtain ⟨p, h1, hp⟩ := c
  have P := I.pin p (List.mem_append_left _ hp)
  refine ⟨p, h1, .inr ⟨P.1, P.2.1, fun z => ?_, fun z => (hf _ z).2.2.2.2.2 p (List.mem_append_left _ hp) rfl⟩⟩
  rcases List.mem_cons.mp (I.stkSub p.1 z) with q | q
  · exact P.2.2.1 q
  · exact P.2.2.2.1 q
theorem HotC.b {X : Cx} (c : HotC X) : HotB X := let ⟨p, h, q⟩ := c; ⟨p, h, .inl q⟩
theorem pg_tupB {X : Cx} {es : List Expr} {k : Nat} {t : TGs} {n : Nat} {pos : Pos} (hc : HotB X) (h : PGs X es t)
    (hn : (assignEach es X.env).length = n := by rfl) (hst : (assignEach es X.env).findIdx? (·.1) = none := by rfl) : PG X (.Tuple es k pos) (gTup X.K n t) := by
  refine ⟨fun pins s σ H v u Q I r hw => ?_⟩
  obtain ⟨a, xs, e1, hq, hl, hw⟩ := hw
  subst e1
  cases r
  obtain ⟨its, rv, ht, hz⟩ := I.tuple hq
  obtain ⟨x1, hot⟩ := hc.at I
  rw [assign_Tuple]
  refine wpAny_bind (wpAny_standAt ?_)
  unfold unpack
  rw [show (assignEach es X.env).length = its.toArray.size by simp [hn, ← hl, rv.length], hst]
  refine wpAny_bind (wpAny_holding (unpack_tup_hot hot ht fun h' hx => ?_))
  have I1 : Inv X pins σ H { s with heap := h' } := I.kept (t' := s.toks) fun b o e => hx b o (Nat.ne_of_lt (Heap.lt_size e)) e
  exact h.run pins _ σ H xs _ Q I1 (by simpa using rv) hw
end L2
set_option Elab.async false
set_option linter.all false
set_option maxRecDepth 100000
set_option maxHeartbeats 4000000
/-! B4: list comprehensions over lists while an exception is handled. -/
namespace L2
open PySem PySem.Spec PyProof.Rows L2H HotX
/-- an iterator's turns, an exception being handled -/
structure TurnB (P : Program) (w : World) (K : PySem.W.Frag) (tg : Expr) (J : It) (fp : List Addr) (it : Addr) (tn : Nat → Heap → Prop) : Prop where
  obj : ∀ i h, tn i h → ∀ b ∈ fp, ∃ o, h.get? b = some o ∧ ∀ v, o.data ≠ .cell v
  keep : ∀ i h h', tn i h → (∀ b ∈ fp, ∀ o, h.get? b = some o → h'.get? b = some o) → tn i h'
  item : ∀ (X : Cx), X.prog = P → X.w = w → X.K = K → ∀ (i : Nat) (pins : List (Addr × Obj)) (s : Shared) (σ : St) (H : Hp) (E : Value → Shared → Prop), Inv X pins σ H s → (∀ b ∈ fp, FpOk X pins H b) → tn i s.heap → J.go i H →
    wpAny (model P w) X.A (pyNext (.ref it)) (fun r s1 => ∃ u, r = some u ∧ wpAny (model P w) X.A (letOwnedTupleGo tg (.ref it) u)
      (fun _ s2 => ∃ x H', Inv X pins σ H' s2 ∧ RelV x u ∧ J.yld i H x H' ∧ tn (i + 1) s2.heap ∧ ∀ b ∈ fp, H' b = none) E s1) E s
  done : ∀ (X : Cx), X.prog = P → X.w = w → X.K = K → HotB X → ∀ (i : Nat) (pins : List (Addr × Obj)) (s : Shared) (σ : St) (H : Hp) (E : Value → Shared → Prop), Inv X pins σ H s → (∀ b ∈ fp, FpOk X pins H b) → tn i s.heap → J.stop i H →
    wpAny (model P w) X.A (pyNext (.ref it)) (fun r s1 => r = none ∧ Inv X pins σ H s1) E s
  self : ∀ (A : Around) (i : Nat) (s : Shared) (Q : Value → Shared → Prop) (E : Value → Shared → Prop), tn i s.heap → Q (.ref it) s → wpAny (model P w) A (pyIter (.ref it)) Q E s
theorem turnB_list {P : Program} {w : World} {K : PySem.W.Frag} {tg : Expr} (a it : Addr) : TurnB P w K tg (Itl K a) [it] it (fun i h => h.IsListIter it a i) := by
  have B := bl_turn (P := P) (w := w) (K := K) (tg := tg) a it
  refine ⟨B.obj, B.keep, ?_, ?_, B.self⟩
  · intro X hP hw hK i pins s σ H E I hf st hg
    subst hP hw hK
    obtain ⟨xs, x, hq, hx⟩ := hg
    obtain ⟨its, rv, p, _⟩ := I.list hq
    obtain ⟨u, hu, ru⟩ := rv.get hx
    obtain ⟨g0, g1, g2, g3, g4, g5⟩ := hf it (List.mem_singleton_self it)
    refine wpAny_pyNext_list_item st p.isList (x := u) (by simpa using hu) fun h' st' sb => ⟨u, rfl, ?_⟩
    have I2 : Inv X pins σ H { s with heap := h' } := I.turned (t' := s.toks) (fun b o hb ho => (sb.2 b hb).trans ho) g0 g1 g3 g4 g5
    obtain ⟨o, ho, hc', hd⟩ := id st'
    refine go_of (s := { s with heap := h' }) ho hc' hd (by decide) ⟨x, H, I2, ru, ⟨rfl, fun ys hy => ?_⟩, st', fun b hb => (hf b hb).1⟩
    rw [I.list_inj hy hq]
    exact hx
  · intro X hP hw hK hc i pins s σ H E I hf st hg
    subst hP hw hK
    obtain ⟨xs, hq, hx⟩ := hg
    obtain ⟨its, rv, p, _⟩ := I.list hq
    obtain ⟨g0, g1, g2, g3, g4, g5⟩ := hf it (List.mem_singleton_self it)
    obtain ⟨x1, hot⟩ := hc.at I
    have hl := rv.length
    exact bl_end_hot hot st p.isList (by simp; omega) fun h' eb => ⟨rfl, I.turned (t' := s.toks) (fun b o hb ho => eb b o hb ho) g0 g1 g3 g4 g5⟩
structure PIB (X : Cx) (tg iter : Expr) (wi : TI) : Prop where
  run : ∀ (pins : List (Addr × Obj)) (s : Shared) (σ : St) (H : Hp) (R : It → Hp → Prop), Inv X pins σ H s → wi σ H R →
    wpAny (model X.prog X.w) X.A (eval iter X.env) (fun v s1 => wpAny (model X.prog X.w) X.A (pyIter v)
      (fun itv s2 => ∃ (it : Addr) (fp : List Addr) (tn : Nat → Heap → Prop) (J : It) (H' : Hp), itv = .ref it ∧ Inv X pins σ H' s2 ∧ TurnB X.prog X.w X.K tg J fp it tn ∧ tn 0 s2.heap ∧ (∀ b ∈ fp, FpOk X pins H' b) ∧ R J H') X.xe s1) X.xe s
theorem pib_list {X : Cx} {tg l : Expr} {tl : TE} (hl : PE X l tl) : PIB X tg l (iList X.K tl) := by
  refine ⟨fun pins s σ H R I h => thn (hl.run pins s σ H _ I h) fun v s1 ⟨x, H1, I1, r1, q1⟩ => ?_⟩
  obtain ⟨a, rfl, ⟨xs, hq⟩, q⟩ := q1
  cases r1
  obtain ⟨its, rv, p, _⟩ := I1.list hq
  refine wpAny_pyIter_list p.isList ⟨s1.heap.objs.size, [s1.heap.objs.size], _, _, H1, rfl, I1.kept (t' := s1.toks) fun b o ho => Heap.get?_push_of_some _ ho, turnB_list a _, ⟨_, Heap.get?_push_size _ rfl, rfl, rfl⟩, fun b hb => ?_, q⟩
  cases List.mem_singleton.mp hb
  exact I1.fpOk (Nat.le_refl _) (I1.hok.fresh (Nat.le_refl _))
section
variable {X : Cx} {elt tg iter : Expr} {ifs : List Expr} {scope : Scope} {own : List (Str × Nat)} {pos pos' : Pos} {wi : TI} {g : TG} {tt : TT} {te : TE}
/-- the block's contexts, an exception being handled -/
def InBlk (X : Cx) (scope : Scope) (p : Cx → Prop) : Prop := ∀ (s : Shared) (H : Hp) (C : Addr) (cl : List (Str × Addr)) (fp : List Addr), HotB (X.blk s H scope (compEnvC scope cl C X.env) fp) → p (X.blk s H scope (compEnvC scope cl C X.env) fp)
theorem lcB_core {pins : List (Addr × Obj)} {s : Shared} {σ : St} {H : Hp} {Q : VK} {use : Option (Value → Sem Unit)} {Qf : Value → Shared → Prop}
    (hc : HotC X) (hN : X.N.Nodup) (I : Inv X pins σ H s) (hi : PIB X tg iter wi) (ok : BlkOk X.N X.env.scope scope own)
    (hg : InBlk X scope fun Y => PG Y tg g) (ht : InBlk X scope fun Y => PTs Y ifs tt) (he : InBlk X scope fun Y => PE Y elt te) (hs : ∀ x, foldedSetIterable iter X.env x = pure x) (h : tLc wi g tt te (own.map (·.2)) σ H Q)
    (hRR : ∀ D C s' m H', Inv X pins σ H' s' → Q (.ref D) H' → s'.heap.Ns C m → FpOk X pins H' C → compPost (model X.prog X.w) X.A X.xe use Qf (.ref D) C (.ok .next) s') :
    wpAny (model X.prog X.w) X.A (comprehension (.ListComp elt [⟨tg, iter, ifs, 0⟩] scope pos) scope X.env pos' (newList []) false (eval iter X.env) use) Qf X.xe s := by
  have hfree : ∀ y ∈ scope.names, y.2 = .free → ∃ c, X.env.cells.lookup y.1 = some c := fun y hy e => (ok.free y hy e).elim (fun k => I.ok.has _ (.inl k)) fun k => I.ok.has _ (.inr k)
  refine wpAny_comprehension_free (use := use) rfl hs (closure_ok hfree) ok.kind (fun y hy e => by rw [ok.uniq y hy, e]) (thn (hi.run pins s σ H _ I h) fun xv s1 hx => thn hx fun itv s2 h2 => ?_)
  obtain ⟨it, fp, tn, J, H2, rfl, I2, T, st2, f2, q⟩ := h2
  refine wpAny_newObj_type (newEnv_comp ?_) (by show 0 ≤ sizeLine; decide)
  generalize hD : s2.heap.objs.size = D
  have hDn : H2 D = none := I2.hok.fresh (Nat.le_of_eq hD)
  obtain ⟨W, ⟨m0, w0⟩, turn⟩ := q D hDn
  generalize hs3 : ({ s2 with heap := s2.heap.push { cls := .type "list", data := .seq ([] : List Value).toArray } } : Shared) = s3
  have h3 : s3.heap = s2.heap.push { cls := .type "list", data := .seq ([] : List Value).toArray } := by rw [← hs3]
  have I3 : Inv X pins σ (upd H2 D (.lst [])) s3 := by
    rw [← hs3]
    refine I2.laid (t' := s2.toks) (fun b o e => Heap.get?_push_of_some _ e) (Nat.le_of_eq hD) ⟨Nat.zero_le _, [], 0, .nil, ?_⟩
    rw [← hD]
    exact Heap.get?_push_size _ rfl
  have f3 : ∀ b ∈ fp, FpOk X pins (upd H2 D (.lst [])) b ∧ b < s3.heap.objs.size := fun b hb => by
    obtain ⟨o, e, _⟩ := T.obj _ _ st2 b hb
    have hlt := Heap.lt_size e
    exact ⟨⟨by rw [upd_ne (by rw [← hD]; exact Nat.ne_of_lt hlt)]; exact (f2 b hb).1, (f2 b hb).2⟩, by rw [h3, Heap.size_push]; exact Nat.lt_succ_of_lt hlt⟩
  have st3 : tn 0 s3.heap := T.keep _ _ _ st2 fun b _ o e => by rw [h3]; exact Heap.get?_push_of_some _ e
  have I4 := block_start I3 ok hN f3
  have hb4 : HotB (X.blk s3 (upd H2 D (.lst [])) scope (compEnvC scope (cellsFrom (s3.heap.objs.size + 1) scope.names (cloFrom X.env.cells scope.names [])) s3.heap.objs.size X.env) fp) := HotC.blk hc I3 fun b hb => (f3 b hb).1
  have pg := hg s3 (upd H2 D (.lst [])) s3.heap.objs.size (cellsFrom (s3.heap.objs.size + 1) scope.names (cloFrom X.env.cells scope.names [])) fp hb4
  have pt := ht s3 (upd H2 D (.lst [])) s3.heap.objs.size (cellsFrom (s3.heap.objs.size + 1) scope.names (cloFrom X.env.cells scope.names [])) fp hb4
  have pe := he s3 (upd H2 D (.lst [])) s3.heap.objs.size (cellsFrom (s3.heap.objs.size + 1) scope.names (cloFrom X.env.cells scope.names [])) fp hb4
  show codeAny _ _ (.compStart (.ListComp elt [⟨tg, iter, ifs, 0⟩] scope pos) 0 (.ref it) (.ref D) (compEnvC scope (cellsFrom (s3.heap.objs.size + 1) scope.names (cloFrom X.env.cells scope.names [])) s3.heap.objs.size X.env)) (compPost (model X.prog X.w) X.A X.xe use Qf (.ref D) s3.heap.objs.size) { s3 with heap := pushCells (s3.heap.push { cls := .type "dict", data := .dict #[] }) scope.names }
  have nfp : ∀ b ∈ fp, (upd H2 D (.lst [])) b = none := fun b hb => (f3 b hb).1.1
  generalize hce : compEnvC scope (cellsFrom (s3.heap.objs.size + 1) scope.names (cloFrom X.env.cells scope.names [])) s3.heap.objs.size X.env = ce at I4 pg pt pe hb4 ⊢
  have cL : ce.locals = s3.heap.objs.size := by subst hce; rfl
  generalize hH3 : upd H2 D (.lst []) = H3 at I3 I4 pg pt pe hb4 w0 nfp f3
  generalize hs4 : ({ s3 with heap := pushCells (s3.heap.push { cls := .type "dict", data := .dict #[] }) scope.names } : Shared) = s4 at I4 ⊢
  have st4 : tn 0 s4.heap := T.keep _ _ _ st3 fun b _ o e => by rw [← hs4]; exact pushCells_keeps _ _ _ _ (Heap.get?_push_of_some _ e)
  have stat : ∀ {σ' : St} {H' : Hp} {s' : Shared}, Inv (X.blk s3 H3 scope ce fp) [] σ' H' s' → (∀ b ∈ fp, H' b = none) → ∀ b ∈ fp, FpOk (X.blk s3 H3 scope ce fp) [] H' b := fun {σ' H' s'} I' hn b hb =>
    ⟨hn b hb, (I'.ok.exf b hb).1, I'.ok.exfs b hb, .inl hb, fun x c e => (I'.ok.exf b hb).2 x c e, fun p hp => absurd (show p ∈ ([] : List (Addr × Obj)) ++ [] from hp) (by simp)⟩
  have loop : codeAny (model X.prog X.w) X.A (.compLoop (.ListComp elt [⟨tg, iter, ifs, 0⟩] scope pos) 0 (.ref it) (.ref D) ce) (compPost (model X.prog X.w) X.A X.xe use Qf (.ref D) s3.heap.objs.size) s4 := by
    refine compLoop_any (fun n s' => ∃ i H', Inv (X.blk s3 H3 scope ce fp) [] (wipe σ (own.map (·.2))) H' s' ∧ tn i s'.heap ∧ (∀ b ∈ fp, H' b = none) ∧ W i n H') ?_ m0 ⟨0, H3, I4, st4, nfp, w0⟩
    rintro n s5 ⟨i, H5, I5, st5, n5, w5⟩
    rcases turn i n H5 w5 with ⟨stop, qq⟩ | ⟨go, Nx, hNx, step⟩
    · refine thnF (T.done (X.blk s3 H3 scope ce fp) rfl rfl rfl hb4 i [] s5 _ H5 (fun _ _ => False) I5 (stat I5 n5) st5 stop) fun r s6 ⟨hr, I6⟩ => ?_
      subst hr
      have I7 : Inv X pins σ H5 s6 := I3.call' (ch := fp) I6.os I6.base I6.hok I6.bare fun b hb => ⟨(f3 b hb).1.2.2.2.1, (f3 b hb).1.2.1, (f3 b hb).1.2.2.2.2.1, (f3 b hb).1.2.2.2.2.2⟩
      have nC : H5 s3.heap.objs.size = none := by
        have z : H5 ce.locals = none := I6.free
        rw [cL] at z
        exact z
      obtain ⟨m, hn, _⟩ := I6.loc
      have hn : s6.heap.Ns ce.locals m := hn
      rw [cL] at hn
      exact hRR D s3.heap.objs.size s6 m H5 I7 qq hn (I3.fpOk (Nat.le_refl _) nC)
    · refine thnF (T.item (X.blk s3 H3 scope ce fp) rfl rfl rfl i [] s5 _ H5 (fun _ _ => False) I5 (stat I5 n5) st5 go) fun r s6 ⟨u, hr, h6⟩ => ?_
      subst hr
      refine thnF h6 fun _ s7 ⟨x, H7, I7, r7, y7, st7, n7⟩ => ?_
      have I7' := I7.pinned (stat I7 n7) (T.obj _ _ st7)
      refine thnF (pg.run _ s7 _ H7 x u _ I7' r7 (step x H7 y7)) fun _ s8 ⟨σ8, H8, I8, hw8, q8⟩ => ?_
      refine thnF (pt.run _ s8 σ8 H8 _ I8 q8) fun b s9 ⟨H9, I9, q9⟩ => ?_
      have fin : ∀ {s' : Shared} {H' : Hp}, Inv (X.blk s3 H3 scope ce fp) ([] ++ pinsAt fp s7.heap) σ8 H' s' → Nx H' → ∃ m, m < n ∧ ∃ i H', Inv (X.blk s3 H3 scope ce fp) [] (wipe σ (own.map (·.2))) H' s' ∧ tn i s'.heap ∧ (∀ b ∈ fp, H' b = none) ∧ W i m H' := fun {s' H'} I' nx => by
        obtain ⟨m', hm, w'⟩ := hNx H' nx
        have pin' : ∀ b ∈ fp, ∀ o, s7.heap.get? b = some o → s'.heap.get? b = some o ∧ H' b = none := fun b hb o e =>
          let z := I'.pin (b, o) (List.mem_append_right _ (List.mem_append_right _ (mem_pinsAt hb e)))
          ⟨z.1, z.2.1⟩
        have hl : (wipe σ (own.map (·.2))).length = σ8.length := by rw [← hw8, wipe_length]
        refine ⟨m', hm, i + 1, H', (I'.unpinned (pins := [])).weak hl (fun j v e => ?_), T.keep _ _ _ st7 fun b hb o e => (pin' b hb o e).1, fun b hb => ?_, w'⟩
        · rw [← hw8] at e
          exact (wipe_some e).1
        · obtain ⟨o, e, _⟩ := T.obj _ _ st7 b hb
          exact (pin' b hb o e).2
      cases b with
      | false =>
        simp only [Bool.false_eq_true, if_false] at q9 ⊢
        exact fin I9 q9
      | true =>
        simp only [if_true] at q9 ⊢
        refine thnF (pe.run _ s9 σ8 H9 _ I9 q9) fun z s10 ⟨yv, H10, I10, r10, acc, hD10, hz10, nx⟩ => ?_
        exact app_ok (X := X.blk s3 H3 scope ce fp) I10 hD10 hz10 r10 fun s11 I11 => fin I11 nx
  exact codeAny_compStart_list loop (T.self X.A 0 _ _ _ st4 loop)
theorem pe_lcB (hc : HotC X) (hN : X.N.Nodup) (hi : PIB X tg iter wi) (ok : BlkOk X.N X.env.scope scope own)
    (hg : InBlk X scope fun Y => PG Y tg g) (ht : InBlk X scope fun Y => PTs Y ifs tt) (he : InBlk X scope fun Y => PE Y elt te) (hs : ∀ x, foldedSetIterable iter X.env x = pure x := by intro _; rfl) :
    PE X (.ListComp elt [⟨tg, iter, ifs, 0⟩] scope pos) (tLc wi g tt te (own.map (·.2))) := by
  refine ⟨fun pins s σ H Q I h => ?_⟩
  rw [eval_ListComp]
  refine lcB_core hc hN I hi ok hg ht he hs h fun D C s' m H' I' q hn f => ⟨m, hn, fun h'' sb => ?_⟩
  exact ⟨.ref D, H', I'.turned (t' := s'.toks) (fun b o hb e => (sb.2 b hb).trans e) f.1 f.2.1 f.2.2.2.1 f.2.2.2.2.1 f.2.2.2.2.2, rfl, q⟩
theorem ps_setLcB {i : Nat} {y : Str} {py spos : Pos} (hc : HotC X) (hN : X.N.Nodup) (hy : X.N[i]? = some y) (hyl : X.env.scope.names.lookup y = some .local)
    (hsw : swapsWith (.ListComp elt [⟨tg, iter, ifs, 0⟩] scope pos) (some (.Name y py)) spos.line X.env = pure true) (hi : PIB X tg iter wi) (ok : BlkOk X.N X.env.scope scope own)
    (hg : InBlk X scope fun Y => PG Y tg g) (ht : InBlk X scope fun Y => PTs Y ifs tt) (he : InBlk X scope fun Y => PE Y elt te) (hs : ∀ x, foldedSetIterable iter X.env x = pure x := by intro _; rfl) :
    PS X (.Assign [.Name y py] (.ListComp elt [⟨tg, iter, ifs, 0⟩] scope pos) spos) (tAsg (tLc wi g tt te (own.map (·.2))) (gName i)) := by
  refine ⟨fun pins s σ H D I h => ?_⟩
  rw [exec_Assign_Name_used _ _ _ _ hsw]
  refine wpAny_bind (wpAny_standAt (wpAny_bind ?_))
  show wpAny _ X.A (do let _ ← comprehension (.ListComp elt [⟨tg, iter, ifs, 0⟩] scope pos) scope X.env (firstIterPos [⟨tg, iter, ifs, 0⟩] pos) (newList []) false (eval iter X.env) (some (assign (.Name y py) X.env))) _ _ s
  have h : tLc wi g tt te (own.map (·.2)) σ H (fun x H1 => gName i x σ H1 D.nx) := h
  refine wpAny_bind (thn (lcB_core (Qf := fun _ s' => SP X pins D .next s') hc hN I hi ok hg ht he hs h fun L C s' m H' I' q hn f => ?_) fun _ s' hq => wpAny_pure (wpAny_pure hq))
  show wpAny _ _ (assign (.Name y py) X.env (.ref L)) _ _ _
  refine wpAny_assign_Name (store_ok2 (v := V.ref L) I' hN hy (.inl hyl) rfl (fun s2 I2 ⟨a, sb, ha⟩ => ?_) (.inr hyl))
  have haC : C ≠ a := by
    rcases ha with z | z
    · rw [z]; exact f.2.1
    · exact fun e => f.2.2.2.2.1 y a z e.symm
  exact ⟨m, hn.sameBut sb haC, fun h3 sb3 => ⟨_, H', I2.turned (t' := s2.toks) (fun b o hb e => (sb3.2 b hb).trans e) f.1 f.2.1 f.2.2.2.1 f.2.2.2.2.1 f.2.2.2.2.2, q⟩⟩
end
end L2
set_option Elab.async false
set_option linter.all false
set_option maxRecDepth 100000
set_option maxHeartbeats 4000000
/-! DL37: xs.extend(ys). -/
namespace DL
open PySem PySem.Spec PyProof.Rows L2
def mExtend (u : RV) : List RV → M RV
  | [v] => (M.look fun W => (lstAt W u).bind fun p => (seqOf W v).bind fun q => if q.1 = false then some (p, q.2) else none).bind fun z => (M.guard (z.1.2.length + z.2.length ≤ sizeLine)).bind fun _ => (setAt z.1.1 (.lst (z.1.2 ++ z.2))).bind fun _ => M.ret (.d .non)
  | _ => M.fail
section
variable {G : Gh}
theorem md_extend : MthD G rExtend mExtend := by
  intro c x u xs us Q w r rs h
  match us, rs, h with
  | [], _, h => exact h.elim
  | _ :: _ :: _, _, h => exact h.elim
  | [v], rs, h =>
    obtain ⟨y, rfl, ry⟩ := vs1 rs
    obtain ⟨⟨⟨l, ys⟩, zs⟩, e, q⟩ := wpM_look (wpM_bind.mp h)
    obtain ⟨⟨l', ys'⟩, e1, e2⟩ := Option.bind_eq_some_iff.mp e
    obtain ⟨⟨t, zs'⟩, e3, e4⟩ := Option.bind_eq_some_iff.mp e2
    dsimp only at e4
    by_cases ht : t = false
    · subst ht
      rw [if_pos rfl] at e4
      cases e4
      obtain ⟨rfl, e5, vs, h1, r1⟩ := lstAt_ok w r e1
      obtain ⟨b, ws, rfl, h2, r2⟩ := seqOf_ok w ry e3
      obtain ⟨hz, q⟩ := wpM_guard (wpM_bind.mp q)
      exact ⟨_, b, vs, ws, rfl, rfl, h1, h2, by rw [← paired_len r1, ← paired_len r2]; exact hz, put_ok w e5 (paired_app r1 r2) (v := .d .non) rfl q⟩
    · rw [if_neg ht] at e4
      cases e4
end
end DL
set_option Elab.async false
set_option linter.all false
set_option maxRecDepth 100000
set_option maxHeartbeats 4000000
/-! DL38: xs.index(y), flat things. -/
namespace DL
open PySem PySem.Spec PyProof.Rows L2
def toV : D → Option V
  | .non => some .non
  | .bl b => some (.bl b)
  | .int i => some (.int i)
  | .str z => some (.str z)
  | _ => none
def flatL : List RV → Option (List V)
  | [] => some []
  | .d x :: r => (toV x).bind fun v => (flatL r).map (v :: ·)
  | .r _ :: _ => none
def firstIx : List V → V → Option Nat
  | [], _ => none
  | z :: zs, y => if eqV z y = true then some 0 else (firstIx zs y).map (· + 1)
theorem firstIx_ok : ∀ {zs : List V} {y : V} {j : Nat}, firstIx zs y = some j → ∃ z, zs[j]? = some z ∧ eqV z y = true ∧ ∀ (m : Nat) (z' : V), m < j → zs[m]? = some z' → eqV z' y = false
  | [], _, _, h => by cases h
  | z :: zs, y, j, h => by
    rw [firstIx] at h
    by_cases e : eqV z y = true
    · rw [if_pos e] at h
      cases h
      exact ⟨z, rfl, e, fun m z' hm => absurd hm (Nat.not_lt_zero m)⟩
    · rw [if_neg e] at h
      obtain ⟨i, hi, rfl⟩ := Option.map_eq_some_iff.mp h
      obtain ⟨z', h1, h2, h3⟩ := firstIx_ok hi
      refine ⟨z', by simpa using h1, h2, fun m w hm hw => ?_⟩
      cases m with
      | zero =>
        have : z = w := by simpa using hw
        subst this
        exact Bool.not_eq_true _ ▸ e
      | succ m => exact h3 m w (by omega) (by simpa using hw)
section
variable {G : Gh} {c : Cf}
theorem toV_ok {x : D} {v w : V} (r : Rep c x v) (h : toV x = some w) : v = w ∧ flatV w = true := by
  cases x <;> simp [toV] at h <;> subst h <;> exact ⟨r, rfl⟩
theorem flatL_ok : ∀ {xs : List RV} {vs ws : List V}, RepVs c xs vs → flatL xs = some ws → vs = ws ∧ ws.all flatV = true
  | [], _, _, .nil, h => by cases h; exact ⟨rfl, rfl⟩
  | .r _ :: _, _, _, _, h => by cases h
  | .d x :: xs, _, ws, .cons r t, h => by
    rw [flatL] at h
    obtain ⟨w, hw, h⟩ := Option.bind_eq_some_iff.mp h
    obtain ⟨ws', hws, rfl⟩ := Option.map_eq_some_iff.mp h
    obtain ⟨rfl, f1⟩ := toV_ok r hw
    obtain ⟨rfl, f2⟩ := flatL_ok t hws
    exact ⟨rfl, by rw [List.all_cons, f1, f2]; rfl⟩
def mIndex (u : RV) : List RV → M RV
  | [.d y] => (M.look fun W => (seqOf W u).bind fun p => if p.1 = false then (flatL p.2).bind fun vs => (toV y).bind fun yv => firstIx vs yv else none).bind fun j => M.ret (.d (.int (j : Nat)))
  | _ => M.fail
theorem md_index : MthD G (rIndex G.K) mIndex := by
  intro c x u xs us Q w r rs h
  match us, rs, h with
  | [], _, h => exact h.elim
  | [.r _], _, h => exact h.elim
  | .d _ :: _ :: _, _, h => exact h.elim
  | .r _ :: _ :: _, _, h => exact h.elim
  | [.d y], rs, h =>
    obtain ⟨z, rfl, ry⟩ := vs1 rs
    obtain ⟨j, e, q⟩ := wpM_look (wpM_bind.mp h)
    obtain ⟨⟨t, ys⟩, e1, e2⟩ := Option.bind_eq_some_iff.mp e
    dsimp only at e2
    by_cases ht : t = false
    · subst ht
      rw [if_pos rfl] at e2
      obtain ⟨ws, h1, e3⟩ := Option.bind_eq_some_iff.mp e2
      obtain ⟨yv, h2, h3⟩ := Option.bind_eq_some_iff.mp e3
      obtain ⟨a, vs, rfl, h4, r4⟩ := seqOf_ok w r e1
      obtain ⟨rfl, f1⟩ := flatL_ok r4 h1
      obtain ⟨rfl, f2⟩ := toV_ok ry h2
      obtain ⟨z', g1, g2, g3⟩ := firstIx_ok h3
      exact ⟨a, vs, z, j, z', rfl, rfl, SqL.of h4, f2, f1, g1, g2, g3, QV.here (v := .d (.int (j : Nat))) q w rfl⟩
    · rw [if_neg ht] at e2
      cases e2
end
end DL
set_option Elab.async false
set_option linter.all false
set_option maxRecDepth 100000
set_option maxHeartbeats 4000000
/-! DL39: dict(pairs), list(d): keys ints and texts. -/
namespace DL
open PySem PySem.Spec PyProof.Rows L2
section
variable {G : Gh} {c : Cf}
theorem pairsK_rep : ∀ {xs : List D} {vs : List V} {kvs : List (Key × D)}, RepL c xs vs → pairsBy keyOf xs = some kvs → ∃ (ps : List Addr) (ws : List (Key × V)), vs = ps.map V.ref ∧ RepP c kvs ws ∧ Paired (fun p kv => SqT G.K c.H p [kV kv.1, kv.2]) ps ws
  | [], vs, kvs, r, h => by
    cases h
    cases r
    exact ⟨[], [], rfl, .nil, .nil⟩
  | x :: xs, _, kvs, ⟨v, r', rfl, h1, h2⟩, h => by
    unfold pairsBy at h
    split at h
    · cases ‹_ :: _ = []›
    · rename_i kx y r e
      cases e
      simp only [Option.bind_eq_some_iff, Option.map_eq_some_iff] at h
      obtain ⟨k, hk, rest, hrest, rfl⟩ := h
      obtain ⟨ps, ws, rfl, h3, h4⟩ := pairsK_rep h2 hrest
      obtain ⟨p, us, rfl, h5, _, h6⟩ := h1
      obtain ⟨kv, r2, rfl, h7, h8⟩ := h6
      obtain ⟨yv, r3, rfl, h9, h10⟩ := h8
      cases h10
      obtain rfl := keyOf_ok h7 hk
      exact ⟨p :: ps, (k, yv) :: ws, rfl, .cons ⟨rfl, h9⟩ h3, .cons (SqT.of h5) h4⟩
    · cases h
theorem cd_dictK {mk : Bool} : CallD G (fun xs H Q => ∃ (a : Addr) (ps : List Addr) (kvs : List (Key × V)), xs = [.ref a] ∧ SqL G.K H a (ps.map V.ref) ∧ Paired (fun p kv => SqT G.K H p [kV kv.1, kv.2]) ps kvs ∧
    ∀ p, H p = none → Q (.ref p) (upd H p (.dK (mergeK [] kvs)))) (bDictK mk) := by
  intro c xs us Q w ru h
  match us, ru, h with
  | [], _, h => exact h.elim
  | _ :: _ :: _, _, h => exact h.elim
  | [u], ru, h =>
    obtain ⟨x, rfl, r⟩ := vs1 ru
    obtain ⟨c1, d, hH, e1, w1, r1, q⟩ := toD_ok w r (wpM_bind.mp h)
    obtain ⟨kvs, hk1, q2⟩ := wpM_opt (wpM_bind.mp q)
    obtain ⟨ys, hy, hk⟩ := Option.bind_eq_some_iff.mp hk1
    cases d <;> try (cases hy; done)
    case lst zs =>
      cases hy
      obtain ⟨a, vs, rfl, h1, _, h2⟩ := r1
      obtain ⟨ps, ws, rfl, h3, h4⟩ := pairsK_rep (G := G) h2 hk
      rw [← hH]
      exact ⟨a, ps, ws, rfl, SqL.of h1, h4, newDK_ok w1 (repP_merge h3 .nil) (wpM_mono q2 (fun _ _ q => q.mono e1) fun _ _ q => q.mono e1)⟩
def bKeysK (mk : Bool) : List RV → M RV
  | [u] => (M.look fun W => match dicOf W u with | some (.inl kvs) => some kvs | _ => none).bind fun kvs => newL mk (kvs.map fun p => RV.d (kD p.1))
  | _ => M.fail
theorem cd_listK {mk : Bool} : CallD G (fun xs H Q => ∃ (a : Addr) (kvs : List (Key × V)), xs = [.ref a] ∧ Rd H a (.dK kvs) ∧ ∀ p, H p = none → Q (.ref p) (upd H p (.lst (kvs.map fun kv => kV kv.1)))) (bKeysK mk) := by
  intro c xs us Q w ru h
  match us, ru, h with
  | [], _, h => exact h.elim
  | _ :: _ :: _, _, h => exact h.elim
  | [u], ru, h =>
    obtain ⟨x, rfl, r⟩ := vs1 ru
    obtain ⟨kvs, hk, q⟩ := wpM_look (wpM_bind.mp h)
    split at hk
    · rename_i kvs' e
      cases hk
      obtain ⟨a, rfl, ws, h1, h2⟩ := dicOf_ok w r e
      refine ⟨a, ws, rfl, h1, newL_ok w ?_ q⟩
      have h2' : RepP c kvs ws := h2
      clear q e h1 r ru h h2
      induction h2' with
      | nil => exact .nil
      | @cons p1 q1 l₁ l₂ hq t ih =>
        refine .cons ?_ ih
        show Rep c (kD p1.1) (kV q1.1)
        rw [hq.1]
        exact kD_rep q1.1
    · cases hk
end
end DL
set_option Elab.async false
set_option linter.all false
set_option maxRecDepth 100000
set_option maxHeartbeats 4000000
/-! DL40: sorted(xs) of texts of one sign. -/
namespace DL
open PySem PySem.Spec PyProof.Rows L2
/-- a text of one sign -/
def one (c : Nat) : Str := ⟨#[c]⟩
theorem one_le {a b : Nat} : ltCps (one b).cps.toList (one a).cps.toList = decide (b < a) := by
  simp [one, ltCps]
theorem rising_one : ∀ (cs : List Nat) (p : Nat), risingS (one p) (cs.map one) = true → (p :: cs).Pairwise (· ≤ ·)
  | [], p, _ => by simp
  | c :: cs, p, h => by
    rw [List.map_cons, risingS, Bool.and_eq_true] at h
    obtain ⟨h1, h2⟩ := h
    have ih := rising_one cs c h2
    rw [one_le] at h1
    have hpc : p ≤ c := by simpa using h1
    rw [List.pairwise_cons] at ih ⊢
    exact ⟨fun x hx => by
      rcases List.mem_cons.mp hx with rfl | hx
      · exact hpc
      · exact Nat.le_trans hpc (ih.1 x hx), List.pairwise_cons.mpr ih⟩
theorem sorted_one : ∀ (cs : List Nat), sortedS (cs.map one) = true → cs.Pairwise (· ≤ ·)
  | [], _ => .nil
  | c :: cs, h => rising_one cs c h
def un (z : Str) : Nat := z.cps.toList.headD 0
theorem un_one (c : Nat) : un (one c) = c := rfl
def sort1 (cs : List Nat) : List Nat := cs.mergeSort fun a b => decide (a ≤ b)
theorem sort1_perm (cs : List Nat) : (sort1 cs).Perm cs := List.mergeSort_perm cs _
theorem sort1_sorted (cs : List Nat) : (sort1 cs).Pairwise (· ≤ ·) := by
  have := List.pairwise_mergeSort (le := fun a b : Nat => decide (a ≤ b)) (fun a b c h1 h2 => by simp at h1 h2 ⊢; omega) (fun a b => by simp; omega) cs
  exact this.imp fun h => by simpa using h
theorem sort1_uniq {cs : List Nat} {ys : List Str} (hp : ys.Perm (cs.map one)) (hs : sortedS ys = true) : ys = (sort1 cs).map one := by
  have hy : ys = (ys.map un).map one := by
    rw [List.map_map]
    have : ys.map (one ∘ un) = ys.map id := List.map_congr_left fun y hy => by
      obtain ⟨c, _, rfl⟩ := List.mem_map.mp (hp.mem_iff.mp hy)
      rfl
    rw [this, List.map_id]
  have hq : (ys.map un).Perm cs := by
    have := hp.map un
    rw [List.map_map, show cs.map (un ∘ one) = cs.map id from List.map_congr_left fun c _ => rfl, List.map_id] at this
    exact this
  rw [hy] at hs
  have s1 := sorted_one _ hs
  have := List.Perm.eq_of_pairwise (le := fun a b : Nat => a ≤ b) (fun a b _ _ h1 h2 => Nat.le_antisymm h1 h2) s1 (sort1_sorted cs) (hq.trans (sort1_perm cs).symm)
  rw [hy, this]
def ones : List D → Option (List Nat)
  | [] => some []
  | .str z :: r => (match z.cps.toList with | [c] => some c | _ => none).bind fun c => (ones r).map (c :: ·)
  | _ => none
theorem ones_ok {c : Cf} : ∀ {xs : List D} {vs : List V} {cs : List Nat}, RepL c xs vs → ones xs = some cs → vs = (cs.map one).map V.str
  | [], _, _, r, h => by
    cases h
    cases r
    rfl
  | x :: xs, _, cs, ⟨v, r, rfl, h1, h2⟩, h => by
    unfold ones at h
    split at h
    · cases ‹_ :: _ = []›
    · rename_i z r' e
      cases e
      obtain ⟨k, hk, h⟩ := Option.bind_eq_some_iff.mp h
      obtain ⟨ks, hks, rfl⟩ := Option.map_eq_some_iff.mp h
      split at hk
      · rename_i k' ek
        cases hk
        have hz : z = one k := by
          obtain ⟨cps⟩ := z
          have : cps = #[k] := by
            apply Array.ext'
            simpa using ek
          rw [this]; rfl
        subst hz
        cases h1
        rw [ones_ok h2 hks]
        rfl
      · cases hk
    · cases h
def bSort1 (mk : Bool) : List RV → M RV
  | [u] => (toD u).bind fun x => (M.opt ((lstOf x).bind ones)).bind fun cs => (M.guard (cs.length < 64)).bind fun _ => newL mk ((sort1 cs).map fun c => RV.d (.str (one c)))
  | _ => M.fail
theorem cd_sort1 {G : Gh} {mk : Bool} : CallD G (rSortedS G.K) (bSort1 mk) := by
  intro c xs us Q w ru h
  match us, ru, h with
  | [], _, h => exact h.elim
  | _ :: _ :: _, _, h => exact h.elim
  | [u], ru, h =>
    obtain ⟨x, rfl, r⟩ := vs1 ru
    obtain ⟨c1, d, hH, e1, w1, r1, q⟩ := toD_ok w r (wpM_bind.mp h)
    obtain ⟨cs, hk1, q2⟩ := wpM_opt (wpM_bind.mp q)
    obtain ⟨hl, q3⟩ := wpM_guard (wpM_bind.mp q2)
    obtain ⟨ys, hy, hk⟩ := Option.bind_eq_some_iff.mp hk1
    cases d <;> try (cases hy; done)
    case lst zs =>
      cases hy
      obtain ⟨a, vs, rfl, h1, _, h2⟩ := r1
      have hv := ones_ok h2 hk
      subst hv
      rw [← hH]
      refine ⟨a, cs.map one, rfl, SqL.of h1, by rw [List.length_map]; exact hl, fun ys p hp hs hpn => ?_⟩
      rw [sort1_uniq hp hs]
      refine newL_ok (mk := mk) w1 ?_ (wpM_mono q3 (fun _ _ q => q.mono e1) fun _ _ q => q.mono e1) p hpn
      clear q q2 q3 hk1 hk h2 h1 hs hp h
      induction sort1 cs with
      | nil => exact .nil
      | cons k ks ih => exact .cons rfl ih
end DL
set_option Elab.async false
set_option linter.all false
set_option maxRecDepth 100000
set_option maxHeartbeats 4000000
/-! B5: what a def, called from an except suite with the handled exception, asks of it: isinstance(e, C), e.f. -/
namespace DL
open PySem PySem.Spec PyProof.Rows L2 L2H
/-- what is asked of an exception's class -/
structure ExcX (K : PySem.W.Frag) (C : Addr) : Prop where
  cl : (PySem.W.clsIn K C).isSome = true
  ga : PySem.W.findIn K (.ref C) "__getattribute__" = some (some (.builtin "BaseException.__getattribute__"))
  gg : PySem.W.findIn K (.ref C) "__getattr__" = some none
  ex : PySem.W.subIn K (.ref C) (.type "BaseException") = some true
  hd : PySem.W.hasDictIn K C = true
  ca : PySem.W.findIn K (.ref C) "__class__" = some (some (.builtin "object.__class__"))
  cg : PySem.W.specialIn K (.builtin "object.__class__") "__get__" = some (some (.builtin "getset_descriptor.__get__"))
  ct : PySem.W.takesIn K (.builtin "object.__class__") = some true
  cm : PySem.W.mroIn K C (.type "object") = some true
/-- the exception's object, as the context has it -/
def IsExc (C a dd : Addr) (oe : Obj) : Prop := oe.cls = .ref C ∧ oe.dict = some dd ∧ ∃ vs, oe.data = .fields vs
def rIsX (K : PySem.W.Frag) (C a dd : Addr) : List V → Hp → VK → Prop := fun xs H Q => ∃ (c : V) (cv : Value) (b : Bool) (fs : List (Str × V)), xs = [.ref a, c] ∧ H dd = some (.xd fs) ∧ (∀ u, RelV c u → u = cv) ∧ PySem.W.kitOne K (.ref C) cv = some b ∧ Q (.bl b) H
section
variable {X : Cx} {C a dd : Addr} {oe : Obj}
theorem inst_exc {pins : List (Addr × Obj)} {σ : L2.St} {H : Hp} {s : Shared} {fs : List (Str × V)} (I : Inv X pins σ H s) (hp : (a, oe) ∈ X.pn) (z : IsExc C a dd oe) (hd : H dd = some (.xd fs)) :
    ∃ od mA, PySem.W.InstAt s.heap a oe C (some od) ∧ s.heap.get? dd = some od ∧ s.heap.Ns1 dd mA ∧ ∀ f, RelO (fs.lookup f) (mA f) := by
  obtain ⟨h1, h2, vs, h3⟩ := z
  obtain ⟨mA, hns, hr⟩ := (show ObjOk X.prog X.w H s.heap dd (.xd fs) from I.hok dd _ hd)
  obtain ⟨od, ho, _⟩ := lookIn_ns hns
  have hg := (I.pin (a, oe) (List.mem_append_left _ hp)).1
  exact ⟨od, mA, ⟨hg, h1, by unfold PySem.W.notCls; rw [h3] <;> rfl, by rw [h2]; exact ho⟩, ho, hns, hr⟩
theorem call_isX (T : ExcX X.K C) (hp : (a, oe) ∈ X.pn) (z : IsExc C a dd oe) : CallR X (.builtin "isinstance") (rIsX X.K C a dd) := by
  intro pins s σ H xs us Q I r h
  obtain ⟨c, cv, b, fs, rfl, hd, hcv, e, q⟩ := h
  obtain ⟨u, w', rfl, rx, rt⟩ := vals2 r
  cases rx
  have ec := hcv _ rt
  subst ec
  obtain ⟨od, mA, J, _⟩ := inst_exc I hp z hd
  exact PySem.W.kia_one (PySem.W.kitx_exc T.cl T.ga T.gg T.ex T.ca T.cg T.ct T.cm) I.kIn J e (fun z => nomatch z) fun tk => ⟨.bl b, H, I.kept (t' := tk) fun _ _ z => z, rfl, q⟩
/-- e.f -/
def tFldX (a dd : Addr) (f : Str) (te : TE) : TE := fun σ H Q => te σ H fun x H1 => x = .ref a ∧ ∃ (fs : List (Str × V)) (v : V), H1 dd = some (.xd fs) ∧ fs.lookup f = some v ∧ Q v H1
theorem pe_fldX {e : Expr} {te : TE} {pos : Pos} {f : Str} (T : ExcX X.K C) (hno : PySem.W.findIn X.K (.ref C) f = some none) (hp : (a, oe) ∈ X.pn) (z : IsExc C a dd oe) (he : PE X e te) (hb : attributeBase e f X.env (eval e X.env) = eval e X.env := by rfl) :
    PE X (.Attribute e f pos) (tFldX a dd f te) := by
  refine ⟨fun pins s σ H Q I h => attr_of hb (thn (he.run pins s σ H _ I h) fun u s1 ⟨x, H1, I1, rx, ex, fs, v, hd, l, q⟩ => ?_)⟩
  subst ex
  obtain rfl : u = Value.ref a := rx
  obtain ⟨od, mA, J, ho, hns, hr⟩ := inst_exc I1 hp z hd
  obtain ⟨od', ho', hl⟩ := lookIn_ns hns
  rw [ho] at ho'
  cases ho'
  obtain ⟨u, hu, ru⟩ := RelO.some_of (v := v) (o := mA f) (by rw [← l]; exact hr f)
  exact PySem.HandSPX.exc_get I1.kIn J T.ga T.gg T.ex (PySem.W.findObj_own T.hd hno rfl (by rw [hl, hu])) (handed_of ru) ⟨v, H1, I1.tok _, ru, q⟩
end
/-- is e, the exception of the context, one of y's -/
def evIsX (x : Str) (C a dd : Addr) (y : Str) (Fe : Env → M RV) (δ : Env) : M RV := (Fe δ).bind fun u => match u with
  | .d (.exc x' C' a' dd' _) => (M.guard (x' = x ∧ C' = C ∧ a' = a ∧ dd' = dd)).bind fun _ => M.ret (.d (.bl (x == y)))
  | _ => M.fail
def evFldX (x : Str) (C a dd : Addr) (f : Str) (Fe : Env → M RV) (δ : Env) : M RV := (Fe δ).bind fun u => match u with
  | .d (.exc x' C' a' dd' fs) => (M.guard (x' = x ∧ C' = C ∧ a' = a ∧ dd' = dd)).bind fun _ => M.opt ((fs.lookup f).map RV.d)
  | _ => M.fail
/-- the context of a def that got the exception -/
structure HasX (X : Cx) (x : Str) (C a dd : Addr) : Prop where
  ex : ∃ oe, (a, oe) ∈ X.pn ∧ IsExc C a dd oe
section
variable {ι : Type} {𝒳 : ι → Cx} {G : Gh} {e : Expr} {x y f : Str} {C C' a dd : Addr} {Fe : Env → M RV} {p py pos : Pos}
theorem de_isX (hX : ∀ i, HasX (𝒳 i) x C a dd) (T : ExcX G.K C) (hm : ∀ i, (𝒳 i).mg "isinstance" = none) (hmC : ∀ i, (𝒳 i).mg y = some (.ref C')) (hk : PySem.W.kitOne G.K (.ref C) (.ref C') = some (x == y)) (hK : ∀ i, (𝒳 i).K = G.K) (h : DE 𝒳 G e Fe)
    (hg : ∀ i, Gl (𝒳 i) "isinstance" := by intro _; rfl) (hgC : ∀ i, Gl (𝒳 i) y := by intro _; rfl) (hdb : (y == ("__debug__" : Str)) = false := by decide)
    (he : ∀ i, starEach [e, .Name y py] (𝒳 i).env = (false, eval e (𝒳 i).env) :: starEach [.Name y py] (𝒳 i).env := by intro _; rfl) (he2 : ∀ i, starEach [.Name y py] (𝒳 i).env = (false, eval (.Name y py) (𝒳 i).env) :: starEach [] (𝒳 i).env := by intro _; rfl) (hpl : ∀ i, (backTo pos (starEach [.Name y py] (𝒳 i).env)).any (·.1) = false := by intro _; rfl) :
    DE 𝒳 G (.Call (.Name "isinstance" p) [e, .Name y py] [] pos) (evIsX x C a dd y Fe) := by
  obtain ⟨t, pt, rt⟩ := h
  refine ⟨tCB (rIsX G.K C a dd) (tCons t (tCons (tC (.ref C')) tNil)), fun i => ?_, fun c σ δ Q s w h => ?_⟩
  · obtain ⟨oe, h1, h2⟩ := (hX i).ex
    have q2 : PE (𝒳 i) (.Name y py) (tC (.ref C')) := pe_glob (hgC i) (hmC i) rfl hdb
    have := pe_callB (p := p) (pos := pos) (x := "isinstance") (call_isX (X := 𝒳 i) (by rw [hK i]; exact T) h1 h2) (hg i) (hm i) (by decide +kernel) (pa_cons (pt i) (pa_cons q2 pa_nil (he2 i)) (he i)) (by decide) (by decide) (he i) (hpl i)
    rw [hK i] at this
    exact this
  · refine rt c σ δ _ s w (wpM_mono (wpM_bind.mp h) (fun u W1 h1 x1 c1 hw e1' w1 r1 => ?_) fun _ _ q => q)
    subst hw
    cases u with
    | r _ => exact h1.elim
    | d u =>
    cases u <;> try exact h1.elim
    case exc x' C2 a' dd' fs =>
    obtain ⟨hgd, q⟩ := wpM_guard (wpM_bind.mp h1)
    obtain ⟨rfl, rfl, rfl, rfl⟩ := hgd
    obtain ⟨rfl, ws, h3, _, _⟩ := r1
    exact ⟨.ref C', .ref C', _, ws, rfl, h3, fun u r => r, hk, q _ c1 rfl e1' w1 rfl⟩
theorem de_fldX (hX : ∀ i, HasX (𝒳 i) x C a dd) (T : ExcX G.K C) (hno : PySem.W.findIn G.K (.ref C) f = some none) (hK : ∀ i, (𝒳 i).K = G.K) (h : DE 𝒳 G e Fe)
    (hb : ∀ i, attributeBase e f (𝒳 i).env (eval e (𝒳 i).env) = eval e (𝒳 i).env := by intro _; rfl) : DE 𝒳 G (.Attribute e f pos) (evFldX x C a dd f Fe) := by
  obtain ⟨t, pt, rt⟩ := h
  refine ⟨tFldX a dd f t, fun i => ?_, fun c σ δ Q s w h => ?_⟩
  · obtain ⟨oe, h1, h2⟩ := (hX i).ex
    exact pe_fldX (by rw [hK i]; exact T) (by rw [hK i]; exact hno) h1 h2 (pt i) (hb i)
  · refine rt c σ δ _ s w (wpM_mono (wpM_bind.mp h) (fun u W1 h1 x1 c1 hw e1' w1 r1 => ?_) fun _ _ q => q)
    subst hw
    cases u with
    | r _ => exact h1.elim
    | d u =>
    cases u <;> try exact h1.elim
    case exc x' C2 a' dd' fs =>
    obtain ⟨hgd, q⟩ := wpM_guard (wpM_bind.mp h1)
    obtain ⟨rfl, rfl, rfl, rfl⟩ := hgd
    obtain ⟨rv, hr, q⟩ := wpM_opt q
    obtain ⟨d, hd, rfl⟩ := Option.map_eq_some_iff.mp hr
    obtain ⟨rfl, ws, h3, _, h4⟩ := r1
    obtain ⟨v, hv, rv⟩ := repN_lookup h4 hd
    exact ⟨rfl, ws, v, h3, hv, q v c1 rfl e1' w1 rv⟩
end
end DL
set_option Elab.async false
set_option linter.all false
set_option maxRecDepth 100000
set_option maxHeartbeats 4000000
/-! B6: the layer's rules, an exception being handled; defs that get it. -/
namespace DL
open PySem PySem.Spec PyProof.Rows L2 L2H HotX
section
variable {ι : Type} {𝒳 : ι → Cx} {G : Gh} {e a b tg elt iter : Expr} {es ifs : List Expr} {Fe : Env → M RV} {pos spos : Pos} {scope : Scope} {vs : List Nat} {S : Env → M (List D)} {T : RV → Env → M Env} {C : Env → M Bool} {E : Env → M RV}
theorem or_eqU (hK : ∀ i, (𝒳 i).K = G.K) {k : Nat} (hr : ∀ i, RoomH k (𝒳 i).A) (i : ι) : OpR (𝒳 i) (compareOp .Eq) (fun x y H Q => rEq x y H Q ∨ rEqD G.K x y H Q) := by
  have := op_eqD (X := 𝒳 i) (by have := (hr i).un; omega)
  rw [hK i] at this
  exact op_eq.or this
theorem or_neU (hK : ∀ i, (𝒳 i).K = G.K) {k : Nat} (hr : ∀ i, RoomH k (𝒳 i).A) (i : ι) : OpR (𝒳 i) (compareOp .NotEq) (fun x y H Q => rNe x y H Q ∨ rNeD G.K x y H Q) := by
  have := op_neD (X := 𝒳 i) (by have := (hr i).un; omega)
  rw [hK i] at this
  exact op_ne.or this
/-- a, b = a tuple -/
def gtTupB (n : Nat) (F : List RV → Env → M Env) (u : RV) (δ : Env) : M Env := (M.look fun W => match seqOf W u with
  | some (true, xs) => some xs
  | _ => none).bind fun xs => (M.guard (xs.length = n)).bind fun _ => F xs δ
theorem dg_tupB {k n : Nat} {F : List RV → Env → M Env} (hK : ∀ i, (𝒳 i).K = G.K) (hc : ∀ i, HotB (𝒳 i)) (h : DGs 𝒳 G es vs F) (hn : ∀ i, (assignEach es (𝒳 i).env).length = n := by intro _; rfl) (hst : ∀ i, (assignEach es (𝒳 i).env).findIdx? (·.1) = none := by intro _; rfl) :
    DG 𝒳 G (.Tuple es k pos) vs (gtTupB n F) := by
  obtain ⟨g, pg, rg⟩ := h
  refine ⟨gTup G.K n g, fun i => ?_, fun c v u σ δ Q s w r h => ?_⟩
  · have := pg_tupB (k := k) (pos := pos) (hc i) (pg i) (hn i) (hst i)
    rw [hK i] at this
    exact this
  · obtain ⟨xs, e, q⟩ := wpM_look (wpM_bind.mp h)
    obtain ⟨hl, q⟩ := wpM_guard (wpM_bind.mp q)
    split at e
    · rename_i ys ey
      cases e
      obtain ⟨a, ws, rfl, h1, r1⟩ := seqOf_ok w r ey
      exact ⟨a, ws, rfl, SqT.of h1, by rw [← paired_len r1]; exact hl, rg c ws xs σ δ Q s w r1 q⟩
    · cases e
def DIB (𝒳 : ι → Cx) (G : Gh) (tg e : Expr) (S : Env → M (List D)) : Prop := ∃ wi, (∀ i, PIB (𝒳 i) tg e wi) ∧ RdI G wi S
def itemsB : D → M (List D)
  | .lst xs => M.ret xs
  | _ => M.fail
def evIterB (Fe : Env → M RV) (δ : Env) : M (List D) := (Fe δ).bind fun u => (toD u).bind itemsB
theorem dib_list (hK : ∀ i, (𝒳 i).K = G.K) (h : DE 𝒳 G e Fe) : DIB 𝒳 G tg e (evIterB Fe) := by
  obtain ⟨t, p, r⟩ := h
  refine ⟨iList G.K t, fun i => ?_, fun c σ δ R s w h => ?_⟩
  · have := pib_list (tg := tg) (p i)
    rw [hK i] at this
    exact this
  refine r c σ δ _ s w (wpM_mono (wpM_bind.mp h) (fun u W1 h1 x c1 hw e1 w1 r1 => ?_) fun _ _ q => q)
  subst hw
  obtain ⟨c2, d, h2, e2, w2, r2, q⟩ := toD_ok w1 r1 (wpM_bind.mp h1)
  cases d <;> try exact q.elim
  case lst xs =>
  have r2' := r2
  obtain ⟨a, vs, rfl, h3, _⟩ := r2'
  refine ⟨a, rfl, ⟨vs, SqL.of (by rw [← h2]; exact h3)⟩, ?_⟩
  have := q (Itl G.K a) c2 rfl (e1.trans e2) w2 (src_list r2)
  rw [← h2]
  exact this
/-- the block's contexts, an exception being handled -/
abbrev blkH (𝒳 : ι → Cx) (scope : Scope) : {q : ι × BX // HotB (blkF 𝒳 scope q)} → Cx := fun q => blkF 𝒳 scope q.1
theorem de_lcB (mk : Bool) (N : List Str) (sc : Scope) (own : List (Str × Nat)) (ok : BlkOk N sc scope own) (hsub : ∀ k, k ∈ vs → k ∈ own.map (·.2)) (hc : ∀ i, HotC (𝒳 i)) (hN : ∀ i, (𝒳 i).N.Nodup)
    (hi : DIB 𝒳 G tg iter S) (hg : DG (blkH 𝒳 scope) G.calm tg vs T) (ht : DTs (blkH 𝒳 scope) G.calm ifs C) (he : DE (blkH 𝒳 scope) G.calm elt E)
    (eN : ∀ i, (𝒳 i).N = N := by intro _; rfl) (es : ∀ i, (𝒳 i).env.scope = sc := by intro _; rfl) (hs : ∀ i, ∀ x, foldedSetIterable iter (𝒳 i).env x = pure x := by intro _ _; rfl) : DE 𝒳 G (.ListComp elt [⟨tg, iter, ifs, 0⟩] scope pos) (evLc mk (own.map (·.2)) S T C E) := by
  obtain ⟨wi, pi, ri⟩ := hi
  obtain ⟨g, pg, rg⟩ := hg
  obtain ⟨tt, pt, rt⟩ := ht
  obtain ⟨te, pe, re⟩ := he
  exact ⟨_, fun i => pe_lcB (hc i) (hN i) (pi i) (by rw [eN i, es i]; exact ok) (fun s H C cl fp q => pg ⟨(i, s, H, C, cl, fp), q⟩) (fun s H C cl fp q => pt ⟨(i, s, H, C, cl, fp), q⟩) (fun s H C cl fp q => pe ⟨(i, s, H, C, cl, fp), q⟩) (hs i), rd_lc _ ri rg rt re hsub⟩
theorem ds_setLcB (mk : Bool) (N : List Str) (sc : Scope) (own : List (Str × Nat)) (i : Nat) {y : Str} {py : Pos} (ok : BlkOk N sc scope own) (hsub : ∀ k, k ∈ vs → k ∈ own.map (·.2)) (hc : ∀ i, HotC (𝒳 i)) (hN : ∀ i, (𝒳 i).N.Nodup)
    (hi : DIB 𝒳 G tg iter S) (hg : DG (blkH 𝒳 scope) G.calm tg vs T) (ht : DTs (blkH 𝒳 scope) G.calm ifs C) (he : DE (blkH 𝒳 scope) G.calm elt E)
    (hy : N[i]? = some y) (hyl : sc.names.lookup y = some .local) (hsw : ∀ i, swapsWith (.ListComp elt [⟨tg, iter, ifs, 0⟩] scope pos) (some (.Name y py)) spos.line (𝒳 i).env = pure true)
    (eN : ∀ i, (𝒳 i).N = N := by intro _; rfl) (es : ∀ i, (𝒳 i).env.scope = sc := by intro _; rfl) (hs : ∀ i, ∀ x, foldedSetIterable iter (𝒳 i).env x = pure x := by intro _ _; rfl) :
    DS 𝒳 G (.Assign [.Name y py] (.ListComp elt [⟨tg, iter, ifs, 0⟩] scope pos) spos) (evAsg (evLc mk (own.map (·.2)) S T C E) (gtName i)) := by
  obtain ⟨wi, pi, ri⟩ := hi
  obtain ⟨g, pg, rg⟩ := hg
  obtain ⟨tt, pt, rt⟩ := ht
  obtain ⟨te, pe, re⟩ := he
  refine ⟨_, fun k => ps_setLcB (hc k) (hN k) (by rw [eN k]; exact hy) (by rw [es k]; exact hyl) (hsw k) (pi k) (by rw [eN k, es k]; exact ok) (fun s H C cl fp q => pg ⟨(k, s, H, C, cl, fp), q⟩) (fun s H C cl fp q => pt ⟨(k, s, H, C, cl, fp), q⟩) (fun s H C cl fp q => pe ⟨(k, s, H, C, cl, fp), q⟩) (hs k), ?_⟩
  refine RdE.asg (vs := [i]) (rd_lc _ ri rg rt re hsub) ?_
  intro c v u σ δ Q s w r h
  refine h (σ.set i (some v)) c rfl (Ext.refl c) w (s.set i r) (by rw [List.length_set]) fun k hk => ?_
  rw [List.getElem?_set_ne (fun z => hk (by rw [z]; exact List.mem_singleton_self k))]
end
/-! ### a def that gets the handled exception -/
structure FnX (P : Program) (w : World) (K : PySem.W.Frag) (mg : Str → Option Value) (base : Heap) (CX : CXT) (k : Nat) (f : Addr) (fd : FuncData) (ps : List Str) (sp : Addr × Obj → Sp) : Prop where
  len : ∀ p vs H Q E, sp p vs H Q E → vs.length = ps.length
  run : ∀ (A : Around) (outer : List PySem.Env) (s : Shared) (H : Hp) (args : Args) (us : List Value) (vs : List V) (Q : VK) (E : XK) (p : Addr × Obj), RoomH k A → Hot1 A p → PinOk outer H s p → Env0 P w K mg base A outer s H → BindsTo s fd args (ps.zip us) → Vals vs us → sp p vs H Q E →
    codeAny (model P w) A (.call (.ref f) args) (CR CX outer P w H s Q E) s
theorem fnX_of {CX : CXT} {P : Program} {w : World} {K : PySem.W.Frag} {mg : Str → Option Value} {base : Heap} {x qual : Str} {st : Stmt} {f : Addr} {fd : FuncData} {N ps : List Str} {k : Nat} {sp : Addr × Obj → Sp} (F : Fun K x qual st f fd) (S : FnScope N ps (defScope st)) (len : ∀ p vs H Q E, sp p vs H Q E → vs.length = ps.length)
    (hbody : ∀ (cdv : Value) (A : Around) (outer : List PySem.Env) (s : Shared) (H : Hp) (vs : List V) (Q : VK) (E : XK) (p : Addr × Obj), Hot1 A p → RoomH k (A.deeper (envOfC qual (defScope st) s.heap.objs.size f cdv)) → sp p vs H Q E →
      ∃ t, PSs (cxH CX P w K mg base N qual (defScope st) f cdv A outer s H E p) (defBody st) t ∧ t { nx := fun _ H' => Q .non H', rt := Q } (L2.start N vs) H) : FnX P w K mg base CX (k + 1) f fd ps sp := by
  obtain ⟨_, _, _, _, _, _, cdv, _, _, rfl, lk, hcd⟩ := F.ex
  refine ⟨len, fun A outer s H args us vs Q E p hr hot hpin e0 hb r hsp => ?_⟩
  have hl := len _ _ _ _ _ hsp
  have KX : K.In s.heap := e0.mod.kin.keeps fun b o e => (e0.bs b o e).1
  have hkind : ∀ y ∈ ps.zip us, (defScope st).names.lookup y.1 = some .local ∨ ((defScope st).names.lookup y.1 = some .cell ∧ ((cellsFrom (s.heap.objs.size + 1) (defScope st).names []).lookup y.1).isSome = true) := fun ⟨n, v⟩ hy =>
    (S.par n (List.of_mem_zip hy).1).elim .inl fun q => .inr ⟨q, PySem.W.cellsFrom_some _ _ _ (.inl q)⟩
  refine codeAny_call_function hr.depth (KX _ _ lk) rfl S.co S.gen rfl (PySem.W.codeRec_of KX hcd) (hb _ _ _ _ (wpAny_newFunctionEnv_cells S.kind hkind fun env he s1 x => ?_))
  subst he
  refine ⟨(e0.mod.nolimit.keeps fun b o e => (e0.bs b o e).1).keeps x.toInCall.keep, codeAny_func ?_⟩
  obtain ⟨t, ht, hq⟩ := hbody cdv A outer s H vs Q E p hot (hr.deeper _) hsp
  have I := inv_startH (CX := CX) (E := E) S hpin e0 hl r x
  refine wpAny_mono (ht.run [] s1 (L2.start N vs) H _ I hq) (fun fl s' hs => ?_) fun e s' hs => hs
  match fl, hs with
  | .ret u, hs =>
    obtain ⟨v, σ', H', J, rv, q⟩ := hs
    exact ⟨v, H', J.os, J.bare, J.base, J.hok, rv, q⟩
  | .next, hs =>
    obtain ⟨σ', H', J, q⟩ := hs
    exact ⟨V.non, H', J.os, J.bare, J.base, J.hok, (rfl : RelV .non Value.none), q⟩
  | .brk, hs => obtain ⟨_, _, _, q⟩ := hs; exact False.elim q
  | .cont, hs => obtain ⟨_, _, _, q⟩ := hs; exact False.elim q
end DL
set_option Elab.async false
set_option linter.all false
set_option maxRecDepth 100000
set_option maxHeartbeats 4000000
/-! B7: functions as values; try: run() / except FoldedError as e: found = named(e). -/
namespace DL
open PySem PySem.Spec PyProof.Rows L2 L2H HotX
/-- a: a function without parameters that does m -/
structure LamV (P : Program) (w : World) (K : PySem.W.Frag) (mg : Str → Option Value) (base : Heap) (cv : Str → Value) (k : Nat) (c0 : Cf) (a : Addr) (m : M RV) : Prop where
  rep : ∃ L cells, Rep c0 (.lam L cells) (.ref a)
  run : ∀ (A : Around) (outer : List PySem.Env) (s : Shared) (c : Cf) (Q : VK) (E : XK), Room k A → Env0 P w K mg base A outer s c.H → WOk c → Ext c0 c → wpM m c.W (QV c Q) (QE ⟨K, E, cv⟩ c) →
    codeAny (model P w) A (.call (.ref a) ⟨[], []⟩) (CR (L2N.CX P w) outer P w c.H s Q E) s
theorem LamV.mono {P : Program} {w : World} {K : PySem.W.Frag} {mg : Str → Option Value} {base : Heap} {cv : Str → Value} {k : Nat} {c0 c1 : Cf} {a : Addr} {m : M RV} (h : LamV P w K mg base cv k c0 a m) (e : Ext c0 c1) : LamV P w K mg base cv k c1 a m :=
  ⟨h.rep.imp fun _ q => q.imp fun _ r => Rep.mono e _ _ r, fun A o s c Q E hr e0 w' e1 q => h.run A o s c Q E hr e0 w' (e.trans e1) q⟩
section
variable {X : Cx} {cv : Str → Value} {k j i : Nat}
/-- run(), run a parameter that holds such a function -/
def tRun (P : Program) (w : World) (K : PySem.W.Frag) (mg : Str → Option Value) (base : Heap) (cv : Str → Value) (k i : Nat) (W : WX) : TE := fun σ H Q => ∃ (c : Cf) (a : Addr) (m : M RV), c.H = H ∧ WOk c ∧ σ[i]? = some (some (.ref a)) ∧ LamV P w K mg base cv k c a m ∧ wpM m c.W (QV c Q) (QE ⟨K, fun C d H' => W C d σ H', cv⟩ c)
theorem pe_run {W : WX} {y : Str} {p1 p2 : Pos} (tk : L2N.Takes X W) (hr : Room k X.A) (hN : X.N[i]? = some y) (hv : Vis X.env.scope y) (hd : (y == ("__debug__" : Str)) = false := by decide) (hcd : (y == ("__classdict__" : Str)) = false := by decide) :
    PE X (.Call (.Name y p1) [] [] p2) (tRun X.prog X.w X.K X.mg X.base cv k i W) := by
  refine ⟨fun pins s σ H Q I h => ?_⟩
  obtain ⟨c, a, m, rfl, w, hs, L, h⟩ := h
  refine wpAny_Call_Name_kw (thn ((pe_var (pos := p1) hN hv hd hcd).run pins s σ c.H (fun v H1 => v = .ref a ∧ H1 = c.H) I ⟨.ref a, hs, rfl, rfl⟩) fun u s1 ⟨v, H1, I1, r1, q1⟩ => ?_)
  obtain ⟨rfl, rfl⟩ := q1
  obtain rfl : u = Value.ref a := r1
  obtain ⟨Lm, cells, a', c', pm, ctv, ea, h1, _⟩ := L.rep
  cases ea
  have of1 : s1.heap.get? a = some (PySem.W.kla_obj "<lambda>" Lm.qual Lm.params Lm.body Lm.scope cells pm c' ctv) := (I1.hok a _ h1).1
  refine PySem.W.callWith_F0 ⟨_, _, _, _, of1⟩ (wpAny_call (codeAny_mono (L.run X.A X.stack s1 c Q _ hr I1.env0 w (Ext.refl c) h) fun r s' hq => ?_))
  match r, hq with
  | .error e, hq => exact L2N.passAt tk σ pins c.H s1 e s' I1 hq
  | .ok (.ret u), hq => exact I1.after hq
  | .ok .next, hq => exact False.elim hq
  | .ok .brk, hq => exact False.elim hq
  | .ok .cont, hq => exact False.elim hq
theorem FnX.mono {P : Program} {w : World} {K : PySem.W.Frag} {mg : Str → Option Value} {base : Heap} {CX : CXT} {j k : Nat} {f : Addr} {fd : FuncData} {ps : List Str} {sp : Addr × Obj → Sp} (F : FnX P w K mg base CX j f fd ps sp) (h : j ≤ k) : FnX P w K mg base CX k f fd ps sp :=
  ⟨F.len, fun A o s H args us vs Q E p hr => F.run A o s H args us vs Q E p (hr.mono h)⟩
theorem pe_callX {CX : CXT} {f : Addr} {fd : FuncData} {ps : List Str} {sp : Addr × Obj → Sp} {p : Addr × Obj} {x : Str} {e : Expr} {es : List Expr} {t : TA} {q pos : Pos} (F : FnX X.prog X.w X.K X.mg X.base CX k f fd ps sp) (hr : RoomH k X.A) (hot : Hot1 X.A p) (hp : p ∈ X.pn)
    (hg : Gl X x) (hm : X.mg x = some (.ref f)) (hk : PySem.W.keepIn X.K (.ref f) = true) (hb : Binds X.K fd ps []) (hx : ∀ σ, PassesAt CX X σ (fun _ _ _ => False)) (ha : PA X (e :: es) t) (hdb : (x == ("__debug__" : Str)) = false := by decide)
    (he : starEach (e :: es) X.env = (false, eval e X.env) :: starEach es X.env := by rfl) (hpl : (backTo pos (starEach es X.env)).any (·.1) = false := by rfl) :
    PE X (.Call (.Name x q) (e :: es) [] pos) (fun σ H Q => t σ H fun vs H1 => sp p vs H1 Q (fun _ _ _ => False)) := by
  refine ⟨fun pins s σ H Q I h => ?_⟩
  refine wpAny_Call_Name_kw (ld_glob I hg hm (PySem.W.callWith_K (h₀ := X.base) I.ok.mod.kin hk (thn (ha.run pos pins s σ H _ I h) fun us s1 ⟨vs, H1, I1, r, q⟩ => ⟨I1.kIn, ?_⟩) he hpl) hdb)
  have hl : us.length = ps.length := by rw [← r.length]; exact F.len _ _ _ _ _ q
  have b := hb s1 us I1.kIn (by rw [List.append_nil]; exact hl)
  rw [List.append_nil] at b
  have P1 := I1.pin p (List.mem_append_left _ hp)
  have hpin : PinOk X.stack H1 s1 p := ⟨P1.1, P1.2.1, fun hm => (List.mem_cons.mp (I1.stkSub p.1 hm)).elim P1.2.2.1 P1.2.2.2.1, P1.2.2.2.2⟩
  refine wpAny_call (codeAny_mono (F.run X.A X.stack s1 H1 ⟨us, []⟩ us vs Q _ p hr hot hpin I1.env0 b r q) fun r s' hq => ?_)
  match r, hq with
  | .error e, hq => exact hx σ pins H1 s1 e s' I1 hq
  | .ok (.ret u), hq => exact I1.after hq
  | .ok .next, hq => exact False.elim hq
  | .ok .brk, hq => exact False.elim hq
  | .ok .cont, hq => exact False.elim hq
end
/-! ### named(e) -/
def spX (K : PySem.W.Frag) (cv : Str → Value) (L : List Str) (Fn : Str → Addr → Addr → Addr → List RV → M RV) : Addr × Obj → Sp := fun p vs H Q E => ∃ (c : Cf) (x : Str) (C dd : Addr) (fs : List (Str × D)), c.H = H ∧ WOk c ∧ vs = [.ref p.1] ∧ IsExc C p.1 dd p.2 ∧ x ∈ L ∧ cv x = .ref C ∧
  Rep c (.exc x C p.1 dd fs) (.ref p.1) ∧ wpM (Fn x C p.1 dd [.d (.exc x C p.1 dd fs)]) c.W (QV c Q) (QE ⟨K, E, cv⟩ c)
section
variable {P : Program} {w : World} {K : PySem.W.Frag} {mg : Str → Option Value} {base : Heap} {cv : Str → Value}
theorem okX {x qual : Str} {st : Stmt} {f : Addr} {fd : FuncData} {N : List Str} {n : Str} {k : Nat} {L : List Str} {Fb : Str → Addr → Addr → Addr → Env → M (Fl × Env)} (F : Fun K x qual st f fd) (S : FnScope N [n] (defScope st))
    (hb : ∀ (cdv : Value) (A : Around) (outer : List PySem.Env) (s : Shared) (H : Hp) (E : XK) (p : Addr × Obj) (y : Str) (C dd : Addr), RoomH k (A.deeper (envOfC qual (defScope st) s.heap.objs.size f cdv)) → HotC (cxH (L2N.CX P w) P w K mg base N qual (defScope st) f cdv A outer s H E p) → HasX (cxH (L2N.CX P w) P w K mg base N qual (defScope st) f cdv A outer s H E p) y C p.1 dd → y ∈ L → cv y = .ref C →
      DSs (fun _ : Unit => cxH (L2N.CX P w) P w K mg base N qual (defScope st) f cdv A outer s H E p) ⟨K, E, cv⟩ (defBody st) (Fb y C p.1 dd)) :
    FnX P w K mg base (L2N.CX P w) (k + 1) f fd [n] (spX K cv L fun y C a dd => fnD N.length (Fb y C a dd)) := by
  refine fnX_of F S (fun p vs H Q E h => ?_) (fun cdv A outer s H vs Q E p hot hr h => ?_)
  · obtain ⟨c, y, C, dd, fs, _, _, rfl, _⟩ := h
    rfl
  · obtain ⟨c, y, C, dd, fs, rfl, wk, rfl, hx, hy, hcv, rr, h⟩ := h
    have hm : p ∈ (cxH (L2N.CX P w) P w K mg base N qual (defScope st) f cdv A outer s c.H E p).pn := List.mem_singleton_self p
    obtain ⟨t, pt, rt⟩ := hb cdv A outer s c.H E p y C dd hr ⟨p, hot, hm⟩ ⟨p.2, hm, hx⟩ hy hcv
    exact ⟨t, pt (), rd_body rt wk (.cons (show RepRV c (.d (.exc y C p.1 dd fs)) _ from rr) .nil) h⟩
/-- a def of the module, called with the handled exception -/
structure CalX (P : Program) (w : World) (K : PySem.W.Frag) (mg : Str → Option Value) (base : Heap) (cv : Str → Value) (k : Nat) (x : Str) (L : List Str) (Fn : Str → Addr → Addr → Addr → List RV → M RV) : Prop where
  ex : ∃ (f : Addr) (fd : FuncData) (n : Str), FnX P w K mg base (L2N.CX P w) k f fd [n] (spX K cv L Fn) ∧ mg x = some (.ref f) ∧ PySem.W.keepIn K (.ref f) = true ∧ Binds K fd [n] []
/-! ### try: run() .. -/
def catchM (nm : DX → M RV) (m : M RV) : M RV := fun W => match m W with
  | none => none
  | some (.ok _, W') => some (.ok (.d .non), W')
  | some (.error e, W') => nm e W'
/-- Fn names the exceptions as nm does -/
def Names1 (cv : Str → Value) (L : List Str) (Fn : Str → Addr → Addr → Addr → List RV → M RV) (nm : DX → M RV) : Prop := ∀ (e : DX) (W : Wd) (Q : RV → Wd → Prop), wpM (nm e) W Q (fun _ _ => False) →
  e.cls ∈ L ∧ e.fs ≠ [] ∧ ∀ (C a dd : Addr), cv e.cls = .ref C → wpM (Fn e.cls C a dd [.d (.exc e.cls C a dd e.fs)]) W Q (fun _ _ => False)
def spRaised (P : Program) (w : World) (K : PySem.W.Frag) (mg : Str → Option Value) (base : Heap) (cv : Str → Value) (k : Nat) (nm : DX → M RV) : Sp := fun vs H Q _ => ∃ (c : Cf) (a : Addr) (m : M RV), c.H = H ∧ WOk c ∧ vs = [.ref a] ∧ LamV P w K mg base cv k c a m ∧ wpM (catchM nm m) c.W (QV c Q) (fun _ _ => False)
theorem repF_N {c : Cf} : ∀ {fs : List (Str × D)} {ws : List (Str × V)}, RepF c fs ws → RepN c fs ws
  | [], _, .nil => rfl
  | (f, x) :: fs, _, .cons (b := (g, v)) (l₂ := ws) ⟨h1, h2⟩ t => by
    obtain rfl : f = g := h1
    exact ⟨v, ws, rfl, h2, repF_N t⟩
/-- the suite: found = named(e) -/
def tNm (cv : Str → Value) (L : List Str) (Fn : Str → Addr → Addr → Addr → List RV → M RV) : Addr → Value → Option Addr → TS := fun a cls d D' σ H => ∃ (c : Cf) (x : Str) (C dd : Addr) (fs : List (Str × D)), c.H = H ∧ WOk c ∧ cls = .ref C ∧ d = some dd ∧ x ∈ L ∧ cv x = .ref C ∧
  σ[2]? = some (some (.ref a)) ∧ Rep c (.exc x C a dd fs) (.ref a) ∧ wpM (Fn x C a dd [.d (.exc x C a dd fs)]) c.W (QV c fun v H1 => D'.nx (σ.set 1 (some v)) H1) (fun _ _ => False)
theorem takesN {X : Cx} : L2N.Takes X (fun _ _ _ _ => False) := fun _ _ x => by
  obtain ⟨_, _, _, _, _, _, _, _, _, _, _, _, _, _, _, _, z⟩ := x
  exact z.elim
theorem ok_braised {st : Stmt} {f : Addr} {fd : FuncData} {k kl j : Nat} {L : List Str} {CF : Addr} {Fn : Str → Addr → Addr → Addr → List RV → M RV} {nm : DX → M RV} {p1 p2 p3 p4 p5 p6 p7 p8 p9 p10 p11 p12 p13 p14 p15 p16 : Pos} {j1 : Nat}
    (F : Fun K "_law_braised" "_law_braised" st f fd) (S : FnScope ["run", "found", "e"] ["run"] (defScope st))
    (hst : defBody st = [.Assign [.Name "found" p1] (.Constant .none j1 p2) p3, .Try [.Expr (.Call (.Name "run" p4) [] [] p5) p6] [.ExceptHandler (some (.Name "FoldedError" p7)) (some "e") [.Assign [.Name "found" p8] (.Call (.Name "_law_bnamed" p9) [.Name "e" p10] [] p11) p12] p13] [] [] p14, .Return (some (.Name "found" p15)) p16])
    (l0 : (defScope st).names.lookup ("run" : Str) = some NameKind.local) (l1 : (defScope st).names.lookup ("found" : Str) = some NameKind.local) (l2 : (defScope st).names.lookup ("e" : Str) = some NameKind.local) (g1 : (defScope st).names.lookup ("FoldedError" : Str) = some NameKind.globalImplicit) (g2 : (defScope st).names.lookup ("_law_bnamed" : Str) = some NameKind.globalImplicit)
    (hF : mg "FoldedError" = some (.ref CF)) (N : CalX P w K mg base cv j "_law_bnamed" L Fn) (hn : Names1 cv L Fn nm) (hL : ∀ x ∈ L, ∃ C, cv x = .ref C ∧ PySem.W.exmOne K (.ref C) (.ref CF) = some true) (hj : j ≤ k) (hkl : kl ≤ k) :
    FnOk P w K mg base (L2N.CX P w) (k + 1) f fd ["run"] (spRaised P w K mg base cv kl nm) := by
  refine F.okG S (fun vs H Q E h => ?_) (fun cdv A outer s H vs Q E hr h => ?_)
  · obtain ⟨c, a, m, _, _, rfl, _⟩ := h
    rfl
  obtain ⟨c, a, m, rfl, wk, rfl, LV, h⟩ := h
  rw [hst]
  obtain ⟨fN, fdN, n, FN, mN, kN, bN⟩ := N.ex
  refine ⟨_, pss_cons (ps_set (i := 1) S.nd rfl (.inl l1) pe_non) (pss_cons (L2N.ps_try_as (i := 2) (c := .ref CF) (Wout := fun _ _ _ _ => False) (tb := fun W => tDrop (tRun P w K mg base cv kl 0 W)) (ts := tNm cv L Fn) rfl rfl S.nd rfl l2 ⟨g1, by decide, .inl hF⟩ takesN (fun W pn xe tk _ => ?_) (fun a' oe cls d pn hz hf => ?_)) (pss_one (ps_ret (pe_var (i := 1) rfl (.inl l1))))), ?_⟩
  · exact pss_one (ps_expr (pe_run (X := (cxOf (L2N.CX P w) P w K mg base ["run", "found", "e"] "_law_braised" (defScope st) f cdv A outer s c.H E).tr pn xe) tk (hr.mono hkl) rfl (.inl l0)))
  · refine ⟨fun pins s' σ H' D I h' => ?_⟩
    obtain ⟨vs, hv⟩ := hf
    have hot : Hot1 ((cxOf (L2N.CX P w) P w K mg base ["run", "found", "e"] "_law_braised" (defScope st) f cdv A outer s c.H E).suite a' ((a', oe) :: pn)).A (a', oe) := ⟨rfl, vs, hv, hz.2.2 vs hv⟩
    have pe := pe_callX (p := (a', oe)) (q := p9) (pos := p11) (x := "_law_bnamed") (X := (cxOf (L2N.CX P w) P w K mg base ["run", "found", "e"] "_law_braised" (defScope st) f cdv A outer s c.H E).suite a' ((a', oe) :: pn)) (FN.mono hj) ⟨hr.dp, hr.un⟩ hot (List.mem_cons_self) g2 mN kN bN (fun σ pins H s e s' I c => by obtain ⟨_, _, _, _, _, _, _, _, _, _, _, _, z⟩ := c; exact z) (pa_cons (pe_var (i := 2) (pos := p10) rfl (.inl l2)) pa_nil)
    refine (pss_one (ps_set (pos := p12) (pos' := p8) (i := 1) S.nd rfl (.inl l1) pe)).run pins s' σ H' D I ?_
    obtain ⟨c1, x, C, dd, fs, rfl, w1, rfl, rfl, hx, hcv, hσ, rr, q⟩ := h'
    exact ⟨.ref a', hσ, c1, x, C, dd, fs, rfl, w1, rfl, ⟨hz.1, hz.2.1, vs, hv⟩, hx, hcv, rr, wpM_mono q (fun _ _ q => q) fun _ _ q => q.elim⟩
  · refine ⟨c, a, m, rfl, wk, rfl, LV, ?_⟩
    unfold wpM catchM at h
    unfold wpM
    cases hm : m c.W with
    | none => rw [hm] at h; exact h.elim
    | some r =>
      obtain ⟨r, W'⟩ := r
      rw [hm] at h
      cases r with
      | ok v => exact fun x c' hw e w' r => ⟨.non, rfl, h .non c' hw e w' rfl⟩
      | error e =>
        have h' : wpM (nm e) W' (QV c Q) (fun _ _ => False) := h
        obtain ⟨hx, hne, hfn⟩ := hn e W' _ h'
        obtain ⟨C', hC, hfo⟩ := hL _ hx
        intro C d c' hw e' w' rx
        subst hw
        obtain ⟨rC, ⟨dd, ws, rfl, hdd, nav, rf⟩ | ⟨z, _⟩⟩ := rx
        · have rC : C = cv e.cls := rC
          rw [hC] at rC
          subst rC
          exact ⟨true, hfo, fun _ a' ha' => ⟨c', e.cls, C', dd, e.fs, rfl, w', rfl, rfl, hx, hC, rfl, ⟨rfl, ws, hdd, nav, repF_N rf⟩, wpM_mono (hfn C' a' dd hC) (fun v W2 q x c2 hw2 e2 w2 r2 => ⟨x, rfl, (QV.mono e' q) x c2 hw2 e2 w2 r2⟩) fun _ _ q => q⟩, fun z => by cases z⟩
        · exact absurd z hne
end
end DL
set_option Elab.async false
set_option linter.all false
set_option maxRecDepth 100000
set_option maxHeartbeats 4000000
/-! B8: notes: objects that are known exactly while a call runs (the cells of the caller's names). -/
namespace DL
open PySem PySem.Spec PyProof.Rows L2 L2H HotX
abbrev Nt := Addr → Option Obj
def noteH (nt : Nt) (H : Hp) : Hp := fun b => match nt b with
  | some o => some (.frz o (.own 0))
  | none => H b
def unH (nt : Nt) (H : Hp) : Hp := fun b => match nt b with
  | some _ => none
  | none => H b
theorem noteH_some {nt : Nt} {H : Hp} {b : Addr} {o : Obj} (h : nt b = some o) : noteH nt H b = some (.frz o (.own 0)) := by unfold noteH; rw [h]
theorem noteH_none {nt : Nt} {H : Hp} {b : Addr} (h : nt b = none) : noteH nt H b = H b := by unfold noteH; rw [h]
theorem unH_some {nt : Nt} {H : Hp} {b : Addr} {o : Obj} (h : nt b = some o) : unH nt H b = none := by unfold unH; rw [h]
theorem unH_none {nt : Nt} {H : Hp} {b : Addr} (h : nt b = none) : unH nt H b = H b := by unfold unH; rw [h]
/-- the notes stand in H -/
def Noted (nt : Nt) (H : Hp) : Prop := ∀ b o, nt b = some o → H b = some (.frz o (.own 0))
/-- the notes' places are free -/
def Bare (nt : Nt) (H : Hp) : Prop := ∀ b o, nt b = some o → H b = none
theorem noted_noteH {nt : Nt} {H : Hp} : Noted nt (noteH nt H) := fun _ _ h => noteH_some h
theorem bare_unH {nt : Nt} {H : Hp} : Bare nt (unH nt H) := fun _ _ h => unH_some h
theorem Bare.nt {nt : Nt} {H : Hp} (h : Bare nt H) {b : Addr} {o : HO} (e : H b = some o) : nt b = none := by
  cases q : nt b with
  | none => rfl
  | some z => rw [h b z q] at e; cases e
theorem Noted.nt {nt : Nt} {H : Hp} (h : Noted nt H) {b : Addr} {o : HO} (e : H b = some o) (n : ¬ Note o) : nt b = none := by
  cases q : nt b with
  | none => rfl
  | some z => rw [h b z q] at e; cases e; exact absurd ⟨_, _, rfl⟩ n
theorem Noted.nt0 {nt : Nt} {H : Hp} (h : Noted nt H) {b : Addr} (e : H b = none) : nt b = none := by
  cases q : nt b with
  | none => rfl
  | some z => rw [h b z q] at e; cases e
theorem un_note {nt : Nt} {H : Hp} (h : Bare nt H) : unH nt (noteH nt H) = H := by
  funext b
  cases q : nt b with
  | none => rw [unH_none q, noteH_none q]
  | some z => rw [unH_some q, h b z q]
section
variable {P : Program} {w : World} {H H' : Hp} {h h' : Heap} {nt : Nt} {fs : List Addr}
theorem hok_note (x : HOk P w H h) (hb : Bare nt H) (hn : ∀ b o, nt b = some o → h.get? b = some o) : HOk P w (noteH nt H) h := fun b u e => by
  cases q : nt b with
  | none =>
    rw [noteH_none q] at e
    exact (x b u e).stay (fun _ _ _ z => z) (fun c z => by rw [noteH_none (hb.nt z)]; exact z) fun c xs z => by rw [noteH_none (hb.nt z)]; exact z
  | some o =>
    rw [noteH_some q] at e
    cases e
    exact ⟨hn b o q, o, hn b o q⟩
theorem hok_un (x : HOk P w H h) (hb : Noted nt H) : HOk P w (unH nt H) h := fun b u e => by
  cases q : nt b with
  | some o => rw [unH_some q] at e; cases e
  | none =>
    rw [unH_none q] at e
    exact (x b u e).stay (fun _ _ _ z => z) (fun c z => by rw [unH_none (hb.nt z (by rintro ⟨_, _, y⟩; cases y))]; exact z) fun c xs z => by rw [unH_none (hb.nt z (by rintro ⟨_, _, y⟩; cases y))]; exact z
/-- behind a call that was made with notes -/
theorem un_out (u : Un fs [] (noteH nt H) H' h h') (hb : Bare nt H) (hn : ∀ b o, nt b = some o → h.get? b = some o) (hn' : ∀ b o, nt b = some o → h'.get? b = some o) : Un fs [] H (unH nt H') h h' where
  keep := fun b o e n hf hx => by
    cases q : nt b with
    | some o' =>
      have := hn b o' q
      rw [e] at this
      cases this
      exact hn' b o q
    | none => exact u.keep b o e (by rw [noteH_none q]; exact n) hf hx
  slot := fun b o e n hf hx => by
    cases q : nt b with
    | some o' =>
      have := hn b o' q
      rw [e] at this
      cases this
      exact ⟨o.slots, hn' b o q⟩
    | none => exact u.slot b o e (by rw [noteH_none q]; exact n) hf hx
  free := fun b o e n hx => by
    cases q : nt b with
    | some o' => exact unH_some q
    | none => rw [unH_none q]; exact u.free b o e (by rw [noteH_none q]; exact n) hx
  there := u.there
  tups := fun b xs e => by rw [unH_none (hb.nt e)]; exact u.tups b xs (by rw [noteH_none (hb.nt e)]; exact e)
  frzs := fun b o xs e => by rw [unH_none (hb.nt e)]; exact u.frzs b o xs (by rw [noteH_none (hb.nt e)]; exact e)
  tbls := fun b ps e => by rw [unH_none (hb.nt e)]; exact u.tbls b ps (by rw [noteH_none (hb.nt e)]; exact e)
/-- behind what ran without the notes -/
theorem un_in (u : Un fs [] (unH nt H) H' h h') (hb : Noted nt H) : Un fs [] H (noteH nt H') h h' where
  keep := fun b o e n hf hx => u.keep b o e (by rw [unH_none (hb.nt0 n)]; exact n) hf hx
  slot := fun b o e n hf hx => u.slot b o e (by rw [unH_none (hb.nt0 n)]; exact n) hf hx
  free := fun b o e n hx => by rw [noteH_none (hb.nt0 n)]; exact u.free b o e (by rw [unH_none (hb.nt0 n)]; exact n) hx
  there := u.there
  tups := fun b xs e => by
    have q := hb.nt e (by rintro ⟨_, _, y⟩; cases y)
    rw [noteH_none q]; exact u.tups b xs (by rw [unH_none q]; exact e)
  frzs := fun b o xs e => by
    cases q : nt b with
    | some o' =>
      have := hb b o' q
      rw [e] at this
      rw [noteH_some q, this]
    | none => rw [noteH_none q]; exact u.frzs b o xs (by rw [unH_none q]; exact e)
  tbls := fun b ps e => by
    have q := hb.nt e (by rintro ⟨_, _, y⟩; cases y)
    rw [noteH_none q]; exact u.tbls b ps (by rw [unH_none q]; exact e)
theorem ub_in {B : Heap} (u : UB fs (unH nt H) H' h B h') (hb : Noted nt H) : UB fs H (noteH nt H') h B h' where
  keep := fun b o e n hf => u.keep b o e (by rw [unH_none (hb.nt0 n)]; exact n) hf
  slot := u.slot
  free := fun b o e n => by rw [noteH_none (hb.nt0 n)]; exact u.free b o e (by rw [unH_none (hb.nt0 n)]; exact n)
  there := u.there
  tups := fun b xs e => by
    have q := hb.nt e (by rintro ⟨_, _, y⟩; cases y)
    rw [noteH_none q]; exact u.tups b xs (by rw [unH_none q]; exact e)
  frzs := fun b o xs e => by
    cases q : nt b with
    | some o' =>
      have := hb b o' q
      rw [e] at this
      rw [noteH_some q, this]
    | none => rw [noteH_none q]; exact u.frzs b o xs (by rw [unH_none q]; exact e)
  tbls := fun b ps e => by
    have q := hb.nt e (by rintro ⟨_, _, y⟩; cases y)
    rw [noteH_none q]; exact u.tbls b ps (by rw [unH_none q]; exact e)
end
/-! ### configurations -/
abbrev Cf.note (c : Cf) (nt : Nt) : Cf := ⟨noteH nt c.H, c.ren, c.W, c.Ao⟩
abbrev Cf.unN (c : Cf) (nt : Nt) : Cf := ⟨unH nt c.H, c.ren, c.W, c.Ao⟩
section
variable {c c' : Cf} {nt : Nt}
theorem note_ok (w : WOk c) (hb : Bare nt c.H) : Ext c (c.note nt) ∧ WOk (c.note nt) := w.of fun b o e => by rw [noteH_none (hb.nt e)]; exact e
theorem mut_note {o : MO} {a : Addr} (h : RepO c o a) (m : o.mut) : ∃ u, c.H a = some u ∧ ¬ Note u := by
  cases o with
  | fz x => exact m.elim
  | lst xs => obtain ⟨vs, e, _⟩ := h; exact ⟨_, e, by rintro ⟨_, _, z⟩; cases z⟩
  | dK xs => obtain ⟨vs, e, _⟩ := h; exact ⟨_, e, by rintro ⟨_, _, z⟩; cases z⟩
  | dT xs => obtain ⟨vs, e, _⟩ := h; exact ⟨_, e, by rintro ⟨_, _, z⟩; cases z⟩
  | ins C xs => obtain ⟨dx, vs, e, _⟩ := h; exact ⟨_, e, by rintro ⟨_, _, z⟩; cases z⟩
  | tbl P q => obtain ⟨_, ps, e, _⟩ := h; exact ⟨_, e, by rintro ⟨_, _, z⟩; cases z⟩
theorem noted_live (w : WOk c) (hn : Noted nt c.H) {b : Addr} {o : Obj} (h : nt b = some o) : ¬ c.live b := fun ⟨l, u, hl, m, q⟩ => by
  obtain ⟨x, e, n⟩ := mut_note (w.obj l u hl) m
  have := hn.nt e n
  rw [q, h] at this
  cases this
theorem unN_lk (w : WOk c) (hn : Noted nt c.H) (ha : ∀ a, c.Ao a → nt a = none) : Lk c (c.unN nt) := by
  refine ⟨rfl, rfl, rfl, fun b o hb nn n => ⟨.inl ?_, n⟩, fun l o hl m => ?_, fun a h => unH_none (ha a h)⟩
  · show unH nt c.H b = some o
    rw [unH_none (hn.nt hb nn)]; exact hb
  · obtain ⟨u, e, n⟩ := mut_note (w.obj l o hl) m
    exact unH_none (hn.nt e n)
/-- a run from noted c to c', seen without notes -/
theorem ext_out (w : WOk c) (hb : Bare nt c.H) (e : Ext (c.note nt) c') : Noted nt c'.H ∧ Ext c (c'.unN nt) := by
  have w2 := (note_ok w hb).2
  refine ⟨fun b o h => e.keep b _ (noteH_some h) (noted_live w2 noted_noteH h), ⟨fun b o h n => ?_, fun b o h n => ?_, e.ren, e.len, e.ao⟩⟩
  · show unH nt c'.H b = some o
    rw [unH_none (hb.nt h)]
    exact e.keep b o (by show noteH nt c.H b = _; rw [noteH_none (hb.nt h)]; exact h) n
  · exact e.dead b o (by show noteH nt c.H b = _; rw [noteH_none (hb.nt h)]; exact h) n
/-- a run from c without its notes, to c' -/
theorem ext_in (hn : Noted nt c.H) (e : Ext (c.unN nt) c') (w' : WOk c') (hb : Bare nt c'.H) : Ext c (c'.note nt) := by
  refine ⟨fun b o h n => ?_, fun b o h n => ?_, e.ren, e.len, e.ao⟩
  · cases q : nt b with
    | some o' =>
      have := hn b o' q
      rw [h] at this
      cases this
      exact noteH_some q
    | none =>
      show noteH nt c'.H b = _
      rw [noteH_none q]
      exact e.keep b o (by show unH nt c.H b = _; rw [unH_none q]; exact h) n
  · cases q : nt b with
    | some o' =>
      rintro ⟨l, u, hl, m, z⟩
      obtain ⟨x, e1, _⟩ := mut_note (w'.obj l u hl) m
      have z : c'.ren l = b := z
      rw [z, hb b o' q] at e1
      cases e1
    | none => exact e.dead b o (by show unH nt c.H b = _; rw [unH_none q]; exact h) n
end
end DL
set_option Elab.async false
set_option linter.all false
set_option maxRecDepth 100000
set_option maxHeartbeats 4000000
/-! B9: a call with the caller's cells noted; a lambda's body run, its cells noted. -/
namespace DL
open PySem PySem.Spec PyProof.Rows L2 L2H HotX
/-- the notes are the caller's cells, as its names stand -/
structure CellN (cells : List (Str × Addr)) (N : List Str) (sc : Scope) (σ : L2.St) (nt : Nt) : Prop where
  cell : ∀ (y : Str) (c : Addr), cells.lookup y = some c → ∃ o, nt c = some o ∧ ∀ (i : Nat) (v : V), N[i]? = some y → σ[i]? = some (some v) → (sc.names.lookup y = some NameKind.cell ∨ sc.names.lookup y = some NameKind.free) → ∃ u, RelV v u ∧ o.data = .cell (some u)
  only : ∀ b o, nt b = some o → ∃ x, o.data = .cell x
  this : ∀ b o, nt b = some o → ∃ y, cells.lookup y = some b
  len : σ.length = N.length
  inj : ∀ y z c, cells.lookup y = some c → cells.lookup z = some c → y = z
  has : ∀ y, (sc.names.lookup y = some NameKind.cell ∨ sc.names.lookup y = some NameKind.free) → ∃ c, cells.lookup y = some c
def tCallN (cells : List (Str × Addr)) (N : List Str) (sc : Scope) (sp : Sp) (t : TA) : TE := fun σ H Q => t σ H fun vs H1 => ∀ nt : Nt, CellN cells N sc σ nt → Bare nt H1 → sp vs (noteH nt H1) (fun v H3 => Noted nt H3 ∧ Q v (unH nt H3)) (fun _ _ _ => False)
open Classical in
theorem pe_callN {X : Cx} {k : Nat} {f : Addr} {fd : FuncData} {ps : List Str} {sp : Sp} {x : Str} {e : Expr} {es : List Expr} {t : TA} {q pos : Pos} (hfn : ∀ y, X.fn y = true) (F : FnOk X.prog X.w X.K X.mg X.base (L2N.CX X.prog X.w) k f fd ps sp) (hr : Room k X.A)
    (hg : Gl X x) (hm : X.mg x = some (.ref f)) (hk : PySem.W.keepIn X.K (.ref f) = true) (hb : Binds X.K fd ps []) (ha : PA X (e :: es) t) (hdb : (x == ("__debug__" : Str)) = false := by decide)
    (he : starEach (e :: es) X.env = (false, eval e X.env) :: starEach es X.env := by rfl) (hpl : (backTo pos (starEach es X.env)).any (·.1) = false := by rfl) :
    PE X (.Call (.Name x q) (e :: es) [] pos) (tCallN X.env.cells X.N X.env.scope sp t) := by
  refine ⟨fun pins s σ H Q I h => ?_⟩
  refine wpAny_Call_Name_kw (ld_glob I hg hm (PySem.W.callWith_K (h₀ := X.base) I.ok.mod.kin hk (thn (ha.run pos pins s σ H _ I h) fun us s1 ⟨vs, H1, I1, r, q⟩ => ⟨I1.kIn, ?_⟩) he hpl) hdb)
  obtain ⟨nt, hnt⟩ : ∃ nt : Nt, ∀ b, nt b = if ∃ y, X.env.cells.lookup y = some b then s1.heap.get? b else none := ⟨fun b => _, fun b => rfl⟩
  have hget : ∀ b o, nt b = some o → s1.heap.get? b = some o ∧ ∃ y, X.env.cells.lookup y = some b := fun b o h => by
    rw [hnt] at h
    split at h
    · exact ⟨h, by assumption⟩
    · cases h
  have hbare : Bare nt H1 := fun b o h => let ⟨_, y, e⟩ := hget b o h; I1.freeC y b e
  have hcell : CellN X.env.cells X.N X.env.scope σ nt := by
    refine ⟨fun y c e => ?_, fun b o h => ?_, fun b o h => (hget b o h).2, I1.len, I1.ok.inj, I1.ok.has⟩
    · obtain ⟨v0, o, ho, hd⟩ := I1.cell y c e
      refine ⟨o, by rw [hnt, if_pos ⟨y, e⟩]; exact ho, fun i v hi hs hv => ?_⟩
      obtain ⟨m, _, hl⟩ := I1.loc
      obtain ⟨u, ru, q⟩ := hl i y v hi hs (hv.elim (fun z => .inr (.inl z)) fun z => .inr (.inr z))
      refine ⟨u, ru, ?_⟩
      rcases q with ⟨k, _⟩ | ⟨_, c2, e2, o2, ho2, hd2⟩
      · have k : X.env.scope.names.lookup y = some NameKind.local := k
        rcases hv with z | z <;> rw [k] at z <;> cases z
      · rw [e] at e2
        cases e2
        rw [ho] at ho2
        cases ho2
        exact hd2
    · obtain ⟨h1, y, e⟩ := hget b o h
      obtain ⟨v0, o2, ho, hd⟩ := I1.cell y b e
      rw [h1] at ho
      cases ho
      exact ⟨v0, hd⟩
  have above : ∀ b o, nt b = some o → X.s_0.heap.objs.size ≤ b := fun b o h => let ⟨_, y, e⟩ := hget b o h; I1.ok.cab y b (hfn y) e
  have low : ∀ b, b < X.s_0.heap.objs.size → nt b = none := fun b hb => by
    cases z : nt b with
    | none => rfl
    | some o => exact absurd (Nat.lt_of_lt_of_le hb (above b o z)) (Nat.lt_irrefl _)
  have E1 := I1.env0
  have e2 : Env0 X.prog X.w X.K X.mg X.base X.A X.stack s1 (noteH nt H1) := by
    refine ⟨E1.frames, E1.mod, fun b o z => ⟨(E1.bs b o z).1, ?_⟩, E1.bsz, E1.funs, fun b hb => ?_, hok_note I1.hok hbare fun b o h => (hget b o h).1, E1.bare⟩
    · rw [noteH_none (low b (Nat.lt_of_lt_of_le (Heap.lt_size z) I1.ok.bsz))]
      exact (E1.bs b o z).2
    · have hz : nt b = none := by
        rcases List.mem_cons.mp (I1.stkSub b hb) with z | z
        · cases y : nt b with
          | none => rfl
          | some o =>
            obtain ⟨_, n, e⟩ := hget b o y
            exact absurd z (I1.cne n b e)
        · obtain ⟨_, o, ho, _⟩ := I1.ok.funs.mem z
          exact low b (Heap.lt_size ho)
      rw [noteH_none hz]
      exact E1.frf b hb
  have hq := q nt hcell hbare
  have hl : us.length = ps.length := by rw [← r.length]; exact F.len _ _ _ _ hq
  have b := hb s1 us I1.kIn (by rw [List.append_nil]; exact hl)
  rw [List.append_nil] at b
  refine wpAny_call (codeAny_mono (F.run X.A X.stack s1 (noteH nt H1) ⟨us, []⟩ us vs _ _ hr e2 b r hq) fun r s' hq => ?_)
  match r, hq with
  | .error e, hq => obtain ⟨_, _, _, _, _, _, _, _, _, _, _, _, z⟩ := hq; exact z.elim
  | .ok (.ret u), hq =>
    obtain ⟨v, H', os, bare, un, hok', rv, hno, q⟩ := hq
    have un2 := un_out un hbare (fun b o h => (hget b o h).1) fun b o h => (hok' b _ (hno b o h)).1
    exact ⟨v, unH nt H', I1.call' (ch := []) os un2 (hok_un hok' hno) bare (fun b z => absurd z (by simp)), rv, q⟩
  | .ok .next, hq => exact False.elim hq
  | .ok .brk, hq => exact False.elim hq
  | .ok .cont, hq => exact False.elim hq
/-! ### a lambda's body -/
abbrev lamE (L : LamI) (cells : List (Str × Addr)) (l f c' : Addr) : PySem.Env := PySem.W.envX L.qual L.scope l f (.ref c') cells
def lamC (P : Program) (w : World) (K : PySem.W.Frag) (mg : Str → Option Value) (base : Heap) (N : List Str) (A : Around) (outer : List PySem.Env) (s : Shared) (H : Hp) (E : XK) (L : LamI) (cells : List (Str × Addr)) (f c' : Addr) : Cx where
  prog := P
  w := w
  K := K
  mg := mg
  base := base
  A := A.deeper (lamE L cells s.heap.objs.size f c')
  N := N
  s_0 := s
  H_0 := H
  env := lamE L cells s.heap.objs.size f c'
  outer := outer
  stack := lamE L cells s.heap.objs.size f c' :: outer
  ex := []
  fn := fun _ => false
  calm := true
  pn := []
  xe := fun e s' => wpAny (model P w) (A.deeper (lamE L cells s.heap.objs.size f c')) (leaving (lamE L cells s.heap.objs.size f c') e) (fun _ s'' => L2N.CX P w outer H s E e s'') (fun e' s'' => L2N.CX P w outer H s E e' s'') s'
section
variable {P : Program} {w : World} {K : PySem.W.Frag} {mg : Str → Option Value} {base : Heap} {cv : Str → Value} {N : List Str} {sc : Scope} {cells0 : List (Str × Addr)} {σ : L2.St} {nt : Nt} {L : LamI}
theorem lam_startN {A : Around} {outer : List PySem.Env} {s : Shared} {H : Hp} {E : XK} {f c' : Addr} {h₁ : Heap} {tk : Nat} (hS : LamX.LamS sc L.scope) (e0 : Env0 P w K mg base A outer s H) (hd : A.handled = none) (hn : Noted nt H) (hC : CellN cells0 N sc σ nt)
    (hinj : ∀ y z c, cells0.lookup y = some c → cells0.lookup z = some c → y = z) (hhas : ∀ y ∈ L.scope.names, y.2 = NameKind.free → ∃ c, cells0.lookup y.1 = some c) (hl : σ.length = N.length)
    (hns : h₁.Ns s.heap.objs.size fun y => ([] : List (Str × Value)).reverse.lookup y) (kp : ∀ b o, s.heap.get? b = some o → h₁.get? b = some o) :
    Inv (lamC P w K mg base N A outer s (unH nt H) E L (cloFrom cells0 L.scope.names []) f c') [] σ (unH nt H) { s with heap := h₁, toks := tk } := by
  have cm : ∀ {y c}, (cloFrom cells0 L.scope.names []).lookup y = some c → cells0.lookup y = some c := fun {y c} e => by
    rcases cloFrom_mem (PySem.mem_of_lookup e) with hm | ⟨h1, h2⟩
    · cases hm
    · obtain ⟨c1, hc⟩ := hhas _ h1 rfl
      have hc : cells0.lookup y = some c1 := hc
      have e2 : c = c1 := by rw [h2, hc] <;> rfl
      rw [e2]; exact hc
  have look : ∀ {y}, L.scope.names.lookup y = some NameKind.free → ∃ c, (cloFrom cells0 L.scope.names []).lookup y = some c := fun {y} hl => mem_lookup (cloFrom_has (cells := cells0) (acc := []) (PySem.mem_of_lookup hl : (y, NameKind.free) ∈ L.scope.names))
  have noA : ∀ b : Addr, b ∉ (lamC P w K mg base N A outer s (unH nt H) E L (cloFrom cells0 L.scope.names []) f c').ex := fun b z => absurd (show b ∈ ([] : List Addr) from z) (by simp)
  have un0 : ∀ b, H b = none → unH nt H b = none := fun b h => by
    cases q : nt b with
    | some o => exact unH_some q
    | none => rw [unH_none q]; exact h
  have at_ : ∀ b o, nt b = some o → s.heap.get? b = some o := fun b o h => (e0.hok b _ (hn b o h)).1
  refine ⟨⟨e0.mod, hS.kind, rfl, rfl, Nat.le_refl _, fun y z c e1 e2 => hinj y z c (cm e1) (cm e2), fun y hy => ?_, fun y c z _ => ?_, fun _ => hd, Around.frames_deeper e0.frames, .inr ⟨rfl, rfl⟩, fun b z => absurd z (noA b), fun b o z => ⟨(e0.bs b o z).1, un0 b (e0.bs b o z).2⟩, e0.bsz, fun b _ _ => noA b,
      fun b z => absurd z (noA b), e0.funs, fun b z => un0 b (e0.frf b z)⟩,
    rfl, e0.bare, Un.kept kp, ⟨_, hns, fun i y v e1 e2 e3 => ?_⟩, fun y c e => ?_, un0 _ (e0.hok.fresh (Nat.le_refl _)), fun y c e => ?_, fun q hq => absurd (show q ∈ ([] : List (Addr × Obj)) ++ [] from hq) (by simp), (hok_un e0.hok hn).kept kp, hl⟩
  · have hy : L.scope.names.lookup y = some NameKind.cell ∨ L.scope.names.lookup y = some NameKind.free := hy
    rcases hy with hy | hy
    · exact absurd rfl (hS.own _ (PySem.mem_of_lookup hy)).2
    · exact look hy
  · have z : false = true := z
    cases z
  · have e3 : Vis L.scope y := e3
    rcases e3 with k | k | k
    · exact absurd rfl (hS.own _ (PySem.mem_of_lookup k)).1
    · exact absurd rfl (hS.own _ (PySem.mem_of_lookup k)).2
    · obtain ⟨c1, h1⟩ := hhas _ (PySem.mem_of_lookup k) rfl
      obtain ⟨o, ho, f⟩ := hC.cell y c1 h1
      obtain ⟨u, ru, hd⟩ := f i v e1 e2 (hS.free _ (PySem.mem_of_lookup k) rfl)
      obtain ⟨c2, h2⟩ := look k
      have := cm h2
      rw [h1] at this
      cases this
      exact ⟨u, ru, .inr ⟨.inr k, c1, h2, o, kp _ _ (at_ c1 o ho), hd⟩⟩
  · obtain ⟨o, ho, _⟩ := hC.cell y c (cm e)
    obtain ⟨x, hx⟩ := hC.only c o ho
    exact ⟨x, o, kp _ _ (at_ c o ho), hx⟩
  · obtain ⟨o, ho, _⟩ := hC.cell y c (cm e)
    exact unH_some ho
theorem cx_in {A : Around} {outer : List PySem.Env} {s s' : Shared} {H : Hp} {E : XK} {e : Value} (e0 : Env0 P w K mg base A outer s H) (hn : Noted nt H) (h : L2N.CX P w outer (unH nt H) s (fun cls d H' => Bare nt H' → E cls d (noteH nt H')) e s') : L2N.CX P w outer H s E e s' := by
  obtain ⟨a, B, H', cls, d, rfl, fl, hokB, ub, na, os, ag, hE⟩ := h
  have at_ : ∀ b o, nt b = some o → s.heap.get? b = some o := fun b o h => (e0.hok b _ (hn b o h)).1
  have bare : Bare nt H' := fun b o h => ub.free b o (at_ b o h) (unH_some h)
  have hB : ∀ b o, nt b = some o → B.get? b = some o := fun b o h => ub.keep b o (at_ b o h) (unH_some h) fun hf => by
    have := e0.frf b hf
    rw [hn b o h] at this
    cases this
  have na' : nt a = none := by
    cases q : nt a with
    | none => rfl
    | some o =>
      have := hB a o q
      rw [fl.2.1] at this
      cases this
  exact ⟨a, B, noteH nt H', cls, d, rfl, fl, hok_note hokB bare hB, ub_in ub hn, (noteH_none na').trans na, os, ag, hE bare⟩
/-- a lambda of the caller, as a function value -/
theorem lamV_of {k : Nat} {δ : Env} {c0 : Cf} {a : Addr} {F : Env → M RV} (hS : LamX.LamS sc L.scope) (hinj : ∀ y z c, cells0.lookup y = some c → cells0.lookup z = some c → y = z) (hhas : ∀ y ∈ L.scope.names, y.2 = NameKind.free → ∃ c, cells0.lookup y.1 = some c)
    (hbind : ∀ (pm cv ctv : Value), bindArgs (PySem.W.kla_fn "<lambda>" L.qual L.params L.body L.scope (cloFrom cells0 L.scope.names []) pm cv ctv) ⟨[], []⟩ = pure [])
    (hDE : ∀ (A : Around) (outer : List PySem.Env) (s : Shared) (H : Hp) (E : XK) (f c' : Addr), Room k (A.deeper (lamE L (cloFrom cells0 L.scope.names []) s.heap.objs.size f c')) → DE (fun _ : Unit => lamC P w K mg base N A outer s H E L (cloFrom cells0 L.scope.names []) f c') ⟨K, E, cv⟩ L.body F)
    (hC : CellN cells0 N sc σ nt) (hN0 : Noted nt c0.H) (w0 : WOk c0) (s0 : SOk σ δ c0) (hl : σ.length = N.length) (r : Rep c0 (.lam L (cloFrom cells0 L.scope.names [])) (.ref a)) (hAo : ∀ b, c0.Ao b → nt b = none) :
    LamV P w K mg base cv (k + 1) c0 a (F δ) := by
  refine ⟨⟨_, _, r⟩, fun A outer s c Q E hr e0 wk e hq => ?_⟩
  have hN : Noted nt c.H := fun b o h => e.keep b _ (hN0 b o h) (noted_live w0 hN0 h)
  obtain ⟨a', c', pm, ctv, ea, h1, n1, h2, n2⟩ := Rep.mono e _ _ r
  cases ea
  have of1 : s.heap.get? a = some (PySem.W.kla_obj "<lambda>" L.qual L.params L.body L.scope (cloFrom cells0 L.scope.names []) pm c' ctv) := (e0.hok a _ h1).1
  have hco : ObjOk P w c.H s.heap c' (LamX.CodeO c' L.qual) := e0.hok c' _ h2
  obtain ⟨⟨oc, vs, t, hoc, hdc, hvc⟩, _, _⟩ := hco
  refine PySem.W.kla_callFunE hr.depth of1 rfl hS.co hS.gen rfl ⟨c', oc, vs, t, rfl, hoc, hdc, hvc⟩ ?_
  rw [hbind]
  have lim : s.heap.NoLimit := e0.mod.nolimit.keeps fun b o z => (e0.bs b o z).1
  refine wpAny_pure (wpAny_newFunctionEnv (fun y hy => (hS.own y hy).2) (fun y hy => absurd hy (by simp)) (fun h₁ hns hsb => ⟨lim.fresh _ hsb, ?_⟩) hS.kind)
  show codeAny _ _ (.expr L.body (lamE L (cloFrom cells0 L.scope.names []) s.heap.objs.size a c')) _ _
  have kp : ∀ b o, s.heap.get? b = some o → h₁.get? b = some o := fun b o z => hsb.extBut b o (Nat.ne_of_lt (Heap.lt_size z)) (Heap.get?_push_of_some _ z)
  have at_ : ∀ b o, nt b = some o → s.heap.get? b = some o := fun b o h => (e0.hok b _ (hN b o h)).1
  have J := lam_startN (E := fun cls d H' => Bare nt H' → E cls d (noteH nt H')) (f := a) (c' := c') (tk := s.toks + ([] : List (Str × Value)).length) hS e0 hr.hd hN hC hinj hhas hl hns kp
  obtain ⟨tt, pt, rt⟩ := hDE A outer s (unH nt c.H) (fun cls d H' => Bare nt H' → E cls d (noteH nt H')) a c' (hr.deeper _)
  have lk := unN_lk wk hN (fun b hb => hAo b (by rw [← e.ao]; exact hb))
  have ht : tt σ (unH nt c.H) (fun v H' => Bare nt H' → Q v (noteH nt H')) := by
    refine rt (c.unN nt) σ δ _ (lk.env (s0.mono e)) (lk.ok wk) (wpM_mono hq (fun v W' q x c1 hw e1 w1 r1 hb => ?_) fun x W' q C d c1 hw e1 w1 r1 hb => ?_)
    · have nk := note_ok w1 hb
      exact q x (c1.note nt) hw (ext_in hN e1 w1 hb) nk.2 (r1.mono nk.1)
    · have nk := note_ok w1 hb
      refine q C d (c1.note nt) hw (ext_in hN e1 w1 hb) nk.2 ⟨r1.1, r1.2.elim (fun ⟨dd, ws, z1, z2, z3, z4⟩ => .inl ⟨dd, ws, z1, nk.1.wk.at z2 z3, nk.1.wk.av z2 z3, z4.monoW nk.1.wk⟩) .inr⟩
  refine PySem.W.kla_codeExpr (wpAny_mono ((pt ()).run [] _ _ _ _ J ht) (fun v s' hq => ?_) fun er s' hq => ?_)
  · obtain ⟨w', H', J', rv, q⟩ := hq
    have ub : Un (frs outer) [] (unH nt c.H) H' s.heap s'.heap := J'.base
    have bare : Bare nt H' := fun b o h => ub.free b o (at_ b o h) (unH_some h) (by simp)
    refine ⟨w', noteH nt H', J'.os, J'.bare, un_in ub hN, hok_note J'.hok bare fun b o h => ub.keep b o (at_ b o h) (unH_some h) (fun hf => ?_) (by simp), rv, q bare⟩
    have := e0.frf b hf
    rw [hN b o h] at this
    cases this
  · have hq : wpAny (model P w) (A.deeper (lamE L (cloFrom cells0 L.scope.names []) s.heap.objs.size a c')) (leaving (lamE L (cloFrom cells0 L.scope.names []) s.heap.objs.size a c') er) (fun _ s'' => L2N.CX P w outer (unH nt c.H) s (fun cls d H' => Bare nt H' → E cls d (noteH nt H')) er s'')
      (fun e' s'' => L2N.CX P w outer (unH nt c.H) s (fun cls d H' => Bare nt H' → E cls d (noteH nt H')) e' s'') s' := hq
    exact wpAny_mono hq (fun _ _ z => cx_in e0 hN z) fun _ _ z => cx_in e0 hN z
end
end DL
set_option Elab.async false
set_option linter.all false
set_option maxRecDepth 100000
set_option maxHeartbeats 4000000
/-! B10: lambda: made; _law_brefuses. -/
namespace DL
open PySem PySem.Spec PyProof.Rows L2 L2H HotX
/-- a new thing of ours is tracked from now on -/
theorem inv_add {X : Cx} {pins : List (Addr × Obj)} {σ : L2.St} {H H0 : Hp} {s s0 : Shared} {f : Addr} {φ : Heap → Prop} (I : Inv X pins σ H s) (I0 : Inv X pins σ H0 s0) (hf : s0.heap.objs.size ≤ f) (hn : H f = none) (ok : ObjOk X.prog X.w (upd H f (.ext φ)) s.heap f (.ext φ)) :
    Inv X pins σ (upd H f (.ext φ)) s := by
  have ne : ∀ b o, X.s_0.heap.get? b = some o → b ≠ f := fun b o e => Nat.ne_of_lt (Nat.lt_of_lt_of_le (Heap.lt_size e) (Nat.le_trans I0.sz hf))
  have nh : ∀ b o, H b = some o → b ≠ f := fun b o e => ne_of_none e hn
  refine ⟨I.ok, I.os, I.bare, ⟨I.base.keep, I.base.slot, fun b o e n hx => ?_, I.base.there, fun b xs e => ?_, fun b o u e => ?_, fun b ps e => ?_⟩, I.loc, I.cell, ?_, fun y c e => ?_, fun p hp => ?_, fun b u e => ?_, I.len⟩
  · rw [upd_ne (ne b o e)]; exact I.base.free b o e n hx
  · have := I.base.tups b xs e
    rw [upd_ne (nh b _ this)]; exact this
  · have := I.base.frzs b o u e
    rw [upd_ne (nh b _ this)]; exact this
  · obtain ⟨more, this⟩ := I.base.tbls b ps e
    exact ⟨more, by rw [upd_ne (nh b _ this)]; exact this⟩
  · rw [upd_ne (Nat.ne_of_lt (Nat.lt_of_lt_of_le I0.lt hf))]; exact I.free
  · obtain ⟨v, q⟩ := I0.cell y c e
    rw [upd_ne (Nat.ne_of_lt (Nat.lt_of_lt_of_le q.lt hf))]; exact I.freeC y c e
  · have p0 := I0.pin p hp
    have p1 := I.pin p hp
    exact ⟨p1.1, by rw [upd_ne (Nat.ne_of_lt (Nat.lt_of_lt_of_le (Heap.lt_size p0.1) hf))]; exact p1.2.1, p1.2.2⟩
  · by_cases hb : b = f
    · subst hb
      rw [upd_same] at e
      cases e
      exact ok
    · rw [upd_ne hb] at e
      exact (I.hok b u e).stay (fun _ _ _ z => z) (fun c z => by rw [upd_ne (nh c _ z)]; exact z) fun c xs z => by rw [upd_ne (nh c _ z)]; exact z
/-- what the making of a lambda leaves -/
structure NewLam (L : LamI) (cl : List (Str × Addr)) (P : Addr) (ps : Array Value) (H H1 : Hp) (f c' : Addr) (pm ctv : Value) : Prop where
  keep : ∀ b o, H b = some o → b ≠ P → H1 b = some o
  tab : ∃ ps', H1 P = some (.tbl ps') ∧ TriplesOk ps'.toList ∧ ∀ (pos : Pos) (v : Value), codeAmong pos ps'.toList = some v → (∃ pos0, codeAmong pos0 ps.toList = some v) ∨ (v = .ref c' ∧ H c' = none)
  fn : H f = none
  fo : H1 f = some (.ext (LamF L cl pm c' ctv f))
  co : H1 c' = some (LamX.CodeO c' L.qual)
  cc : H c' = none ∨ ∃ pos0, codeAmong pos0 ps.toList = some (.ref c')
def tMkLam (L : LamI) (cl : List (Str × Addr)) (P : Addr) : TE := fun σ H Q => ∃ ps : Array Value, H P = some (.tbl ps) ∧ TriplesOk ps.toList ∧ (∀ (pos : Pos) (v : Value), codeAmong pos ps.toList = some v → ∃ c', v = .ref c' ∧ H c' = some (LamX.CodeO c' L.qual)) ∧
  ∀ f c' pm ctv H1, NewLam L cl P ps H H1 f c' pm ctv → Q (.ref f) H1
theorem lamF_ok {P : Program} {w : World} {H : Hp} {h : Heap} {L : LamI} {cl : List (Str × Addr)} {pm ctv : Value} {c f : Addr} (e : h.get? f = some (PySem.W.kla_obj "<lambda>" L.qual L.params L.body L.scope cl pm c ctv)) : ObjOk P w H h f (.ext (LamF L cl pm c ctv f)) :=
  ⟨e, ⟨_, e⟩, fun h1 h2 z st => st _ z⟩
theorem pe_lam {X : Cx} {L : LamI} {c P : Addr} {pos : Pos} (TB : LamX.TabB X.base X.mg c P) (hcode : X.env.code = .ref c) (hq : L.qual = X.env.qual ++ "<lambda>") (hS : LamX.LamS X.env.scope L.scope) (hdef : defaultsOf L.params X.env = ([], [])) :
    PE X (.Lambda L.params L.body L.scope pos) (tMkLam L (cloFrom X.env.cells L.scope.names []) P) := by
  refine ⟨fun pins s σ H Q I h => ?_⟩
  obtain ⟨ps, hP, ht, ha, hQ⟩ := h
  refine PySem.W.kla_eval hdef ?_
  rw [← hq]
  have bP : s.heap.BuiltinsAt X.mg P := TB.bm.keeps I.bk
  have hP' : s.heap.get? P = some { cls := .none, data := .fields ps } := I.hok P _ hP
  cases hc : codeAmong pos ps.toList with
  | none =>
    refine PySem.W.kla_makeFunction (mg := X.mg) (c := c) (P := P) (ps := ps) (closure_ok (hS.has I.ok)) I.ok.glob (I.mod.glob.keeps I.bk) hcode (TB.code.keeps I.bk) hP' ht hc TB.gP bP fun c' ctv h' tk hx hge hlt hrec htb => ?_
    obtain ⟨c2, oc, vs, t, e2, hoc, hd, hv⟩ := hrec
    cases e2
    have hsz : s.heap.objs.size ≤ h'.objs.size := Nat.le_trans hge (Nat.le_of_lt hlt)
    have nC : H c' = none := I.hok.fresh hge
    have nF : H h'.objs.size = none := I.hok.fresh hsz
    have I1 := LamX.inv_table (t' := tk) (more := #[rawInt pos.line, rawInt pos.col, .ref c']) (h' := h'.push (PySem.W.kla_obj "<lambda>" L.qual L.params L.body L.scope (cloFrom X.env.cells L.scope.names []) ((X.mg "__name__").getD .none) c' ctv)) I hP
      (fun b o hb e => Heap.get?_push_of_some _ (hx b o hb e)) (Heap.get?_push_of_some _ htb) hge ⟨oc, vs, t, Heap.get?_push_of_some _ hoc, hd, hv⟩
    have n1 : h'.objs.size ≠ c' := Nat.ne_of_gt hlt
    have n2 : h'.objs.size ≠ P := Nat.ne_of_gt (Nat.lt_of_lt_of_le (Heap.lt_size hP') hsz)
    have n3 : P ≠ c' := ne_of_none hP nC
    have I2 := inv_add (φ := LamF L (cloFrom X.env.cells L.scope.names []) ((X.mg "__name__").getD .none) c' ctv h'.objs.size) I1 I hsz (by rw [upd_ne n1, upd_ne n2]; exact nF) (lamF_ok (Heap.get?_push_size _ rfl))
    refine ⟨.ref h'.objs.size, _, I2, rfl, hQ _ c' _ ctv _ ⟨fun b o e nb => ?_, ⟨_, by rw [upd_ne n2.symm, upd_ne n3, upd_same], ?_, fun p v hv => ?_⟩, nF, upd_same, by rw [upd_ne n1.symm, upd_same], .inl nC⟩⟩
    · rw [upd_ne (ne_of_none e nF), upd_ne (ne_of_none e nC), upd_ne nb]; exact e
    · rw [show (ps ++ #[rawInt pos.line, rawInt pos.col, .ref c']).toList = ps.toList ++ [rawInt pos.line, rawInt pos.col, .ref c'] by simp]
      exact PySem.TriplesOk_snoc _ _ _ _ ht
    · rw [show (ps ++ #[rawInt pos.line, rawInt pos.col, .ref c']).toList = ps.toList ++ [rawInt pos.line, rawInt pos.col, .ref c'] by simp] at hv
      rcases LamX.among_app _ ht hv with z | z
      · exact .inl ⟨p, z⟩
      · exact .inr ⟨z, nC⟩
  | some cv =>
    obtain ⟨c', e, hco⟩ := ha pos cv hc
    subst e
    refine PySem.W.kla_makeFunctionHit (mg := X.mg) (c := c) (P := P) (ps := ps) (closure_ok (hS.has I.ok)) I.ok.glob (I.mod.glob.keeps I.bk) hcode (TB.code.keeps I.bk) hP' ht hc bP fun ctv h' tk hx hsz => ?_
    have nF : H h'.objs.size = none := I.hok.fresh hsz
    have I1 : Inv X pins σ H { s with heap := h'.push (PySem.W.kla_obj "<lambda>" L.qual L.params L.body L.scope (cloFrom X.env.cells L.scope.names []) ((X.mg "__name__").getD .none) c' ctv), toks := tk } := I.kept fun b o e => Heap.get?_push_of_some _ (hx b o e)
    have I2 := inv_add (φ := LamF L (cloFrom X.env.cells L.scope.names []) ((X.mg "__name__").getD .none) c' ctv h'.objs.size) I1 I hsz nF (lamF_ok (Heap.get?_push_size _ rfl))
    have old : ∀ b o, H b = some o → upd H h'.objs.size (.ext (LamF L (cloFrom X.env.cells L.scope.names []) ((X.mg "__name__").getD .none) c' ctv h'.objs.size)) b = some o := fun b o e => by rw [upd_ne (ne_of_none e nF)]; exact e
    exact ⟨.ref h'.objs.size, _, I2, rfl, hQ _ c' _ ctv _ ⟨fun b o e _ => old b o e, ⟨ps, old _ _ hP, ht, fun p v hv => .inl ⟨p, hv⟩⟩, nF, upd_same, old _ _ hco, .inr ⟨pos, hc⟩⟩⟩
/-- lambda: .., l the label of the table -/
def evLam (L : LamI) (cl : List (Str × Addr)) (P : Addr) (l : Nat) (_ : Env) : M RV := M.look fun W => match W[l]? with
  | some (.tbl P' q) => if P' = P ∧ q = L.qual then some (.d (.lam L cl)) else none
  | _ => none
theorem rd_lam {G : Gh} {L : LamI} {cl : List (Str × Addr)} {P : Addr} {l : Nat} : RdE G (tMkLam L cl P) (evLam L cl P l) := by
  intro c σ δ Q s w h
  obtain ⟨rv, e, q⟩ := wpM_look h
  split at e
  case h_2 => cases e
  case h_1 P' q' hl =>
  by_cases hz : P' = P ∧ q' = L.qual
  case neg => rw [if_neg hz] at e; cases e
  rw [if_pos hz] at e
  cases e
  obtain ⟨rfl, rfl⟩ := hz
  obtain ⟨hren, ps, hP, ht, ha⟩ := w.obj l _ hl
  refine ⟨ps, by rw [← hren]; exact hP, ht, fun pos v hv => (ha pos v hv).imp fun _ z => ⟨z.1, z.2.1⟩, fun f c' pm ctv H1 N => ?_⟩
  have lP : c.live P' := ⟨l, _, hl, trivial, hren⟩
  let c1 : Cf := ⟨H1, c.ren, c.W, c.Ao⟩
  have nfP : ∀ b, ¬ Av c b → b ≠ P' := fun b n z => n (.inr (by rw [z]; exact lP))
  have wk : Wk c c1 := ⟨fun b o hb n => ⟨N.keep b o hb (nfP b n), n⟩, fun _ _ => rfl, Nat.le_refl _⟩
  have ex : Ext c c1 := ⟨fun b o hb n => N.keep b o hb fun z => n (by rw [z]; exact lP), fun b o hb n => n, fun _ _ => rfl, Nat.le_refl _, rfl⟩
  have fresh : ∀ b, c.H b = none → ¬ Av c b := fun b hb => w.fresh hb
  have w1 : WOk c1 := by
    refine ⟨fun l2 u hl2 => ?_, w.inj, w.out, fun a hA => ?_⟩
    · by_cases hm : u.mut ∧ c.ren l2 = P'
      · have e2 : l2 = l := w.inj l2 l u _ hl2 hm.1 hl trivial (hm.2.trans hren.symm)
        subst e2
        rw [hl] at hl2
        cases hl2
        obtain ⟨ps', t1, t2, t3⟩ := N.tab
        refine ⟨hren, ps', by show H1 (c.ren l2) = _; rw [hren]; exact t1, t2, fun pos v hv => ?_⟩
        rcases t3 pos v hv with ⟨p0, z⟩ | ⟨z1, z2⟩
        · obtain ⟨c2, y1, y2, y3⟩ := ha p0 v z
          exact ⟨c2, y1, wk.at y2 y3, wk.av y2 y3⟩
        · exact ⟨c', z1, N.co, fresh c' z2⟩
      · exact (w.obj l2 u hl2).monoW wk fun m ho hho => N.keep _ _ hho fun z => hm ⟨m, z⟩
    · obtain ⟨o, h1, h2⟩ := w.ao a hA
      refine ⟨o, N.keep _ _ h1 fun z => ?_, h2⟩
      exact w.out l _ hl trivial (by rw [hren, ← z]; exact hA)
  refine q (.ref f) c1 rfl ex w1 ⟨f, c', pm, ctv, rfl, N.fo, fresh f N.fn, N.co, ?_⟩
  rcases N.cc with z | ⟨p0, z⟩
  · exact fresh c' z
  · obtain ⟨c2, y1, y2, y3⟩ := ha p0 _ z
    cases y1
    exact y3
section
variable {ι : Type} {𝒳 : ι → Cx} {G : Gh} {e : Expr} {pos : Pos}
theorem de_lam (L : LamI) {cl : List (Str × Addr)} {c P : Addr} {l : Nat} (he : e = .Lambda L.params L.body L.scope pos) (TB : ∀ i, LamX.TabB (𝒳 i).base (𝒳 i).mg c P) (hcode : ∀ i, (𝒳 i).env.code = .ref c) (hq : ∀ i, L.qual = (𝒳 i).env.qual ++ "<lambda>") (hcl : ∀ i, cl = cloFrom (𝒳 i).env.cells L.scope.names []) (hS : ∀ i, LamX.LamS (𝒳 i).env.scope L.scope)
    (hdef : ∀ i, defaultsOf L.params (𝒳 i).env = ([], [])) : DE 𝒳 G e (evLam L cl P l) := by
  subst he
  refine ⟨tMkLam L cl P, fun i => ?_, rd_lam⟩
  have := pe_lam (pos := pos) (TB i) (hcode i) (hq i) (hS i) (hdef i)
  rw [hcl i]
  exact this
end
end DL
set_option Elab.async false
set_option linter.all false
set_option maxRecDepth 100000
set_option maxHeartbeats 4000000
/-! B11: _law_brefuses, and its call with a lambda. -/
namespace DL
open PySem PySem.Spec PyProof.Rows L2 L2H HotX
/-- found = raised(run), then Fb -/
def refM (nm : DX → M RV) (Fb : Env → M (Fl × Env)) (m : M RV) (rw_ rt_ : RV) : M RV := (catchM nm m).bind fun u => (Fb [some rw_, some rt_, none, some u]).bind fun p => match p.1 with
  | .rt v => M.ret v
  | .nx => M.ret (.d .non)
  | _ => M.fail
def spRefuses (P : Program) (w : World) (K : PySem.W.Frag) (mg : Str → Option Value) (base : Heap) (cv : Str → Value) (k : Nat) (nm : DX → M RV) (Fb : Env → M (Fl × Env)) : Sp := fun vs H Q _ => ∃ (c : Cf) (rw_ rt_ : RV) (xw xt : V) (a : Addr) (m : M RV), c.H = H ∧ WOk c ∧ vs = [xw, xt, .ref a] ∧
  RepRV c rw_ xw ∧ RepRV c rt_ xt ∧ LamV P w K mg base cv k c a m ∧ wpM (refM nm Fb m rw_ rt_) c.W (QV c Q) (fun _ _ => False)
/-- a def of the module that takes a function value -/
structure CalF (P : Program) (w : World) (K : PySem.W.Frag) (mg : Str → Option Value) (base : Heap) (k : Nat) (x : Str) (ps : List Str) (sp : Sp) : Prop where
  ex : ∃ (f : Addr) (fd : FuncData), FnOk P w K mg base (L2N.CX P w) k f fd ps sp ∧ mg x = some (.ref f) ∧ PySem.W.keepIn K (.ref f) = true ∧ Binds K fd ps []
section
variable {P : Program} {w : World} {K : PySem.W.Frag} {mg : Str → Option Value} {base : Heap} {cv : Str → Value}
theorem ok_brefuses {st rest : Stmt} {f : Addr} {fd : FuncData} {k kl j : Nat} {nm : DX → M RV} {Fb : Env → M (Fl × Env)} {p1 p2 p3 p4 p5 : Pos} (F : Fun K "_law_brefuses" "_law_brefuses" st f fd) (S : FnScope ["word", "thing", "run", "found"] ["word", "thing", "run"] (defScope st))
    (hst : defBody st = [.Assign [.Name "found" p1] (.Call (.Name "_law_braised" p2) [.Name "run" p3] [] p4) p5, rest])
    (l2 : (defScope st).names.lookup ("run" : Str) = some NameKind.local) (l3 : (defScope st).names.lookup ("found" : Str) = some NameKind.local) (g : (defScope st).names.lookup ("_law_braised" : Str) = some NameKind.globalImplicit)
    (B : CalF P w K mg base j "_law_braised" ["run"] (spRaised P w K mg base cv kl nm)) (hj : j ≤ k)
    (hb : ∀ (cdv : Value) (A : Around) (outer : List PySem.Env) (s : Shared) (H : Hp) (E : XK), Room k (A.deeper (envOfC "_law_brefuses" (defScope st) s.heap.objs.size f cdv)) → DSs (fun _ : Unit => cxOf (L2N.CX P w) P w K mg base ["word", "thing", "run", "found"] "_law_brefuses" (defScope st) f cdv A outer s H E) ⟨K, E, cv⟩ [rest] Fb) :
    FnOk P w K mg base (L2N.CX P w) (k + 1) f fd ["word", "thing", "run"] (spRefuses P w K mg base cv kl nm Fb) := by
  refine F.okG S (fun vs H Q E h => ?_) (fun cdv A outer s H vs Q E hr h => ?_)
  · obtain ⟨c, _, _, _, _, a, m, _, _, rfl, _⟩ := h
    rfl
  obtain ⟨c, rw_, rt_, xw, xt, a, m, rfl, wk, rfl, h1, h2, LV, h⟩ := h
  rw [hst]
  obtain ⟨fB, fdB, FB, mB, kB, bB⟩ := B.ex
  obtain ⟨t, pt, rt⟩ := hb cdv A outer s c.H E hr
  refine ⟨_, pss_cons (ps_set (i := 3) S.nd rfl (.inl l3) (pe_call (E := fun _ _ _ => False) (FB.mono hj) hr g mB kB bB .nil (fun pins σ H s e s' I c => by obtain ⟨_, _, _, _, _, _, _, _, _, _, _, _, z⟩ := c; exact z.elim) (pa_cons (pe_var (i := 2) rfl (.inl l2)) pa_nil))) (pt ()), ?_⟩
  refine ⟨.ref a, rfl, ⟨c, a, m, rfl, wk, rfl, LV, wpM_mono (wpM_bind.mp h) (fun u W1 h3 x c1 hw e1 w1 r1 => ?_) fun _ _ q => q⟩⟩
  subst hw
  have s1 : SOk ((L2.start ["word", "thing", "run", "found"] [xw, xt, .ref a]).set 3 (some x)) [some rw_, some rt_, none, some u] c1 := by
    refine ⟨rfl, fun i rv hi => ?_⟩
    match i, hi with
    | 0, hi => cases hi; exact ⟨xw, rfl, h1.mono e1⟩
    | 1, hi => cases hi; exact ⟨xt, rfl, h2.mono e1⟩
    | 2, hi => cases hi
    | 3, hi => cases hi; exact ⟨x, rfl, r1⟩
    | i + 4, hi => simp at hi
  refine rt c1 _ _ _ s1 w1 (wpM_mono (wpM_bind.mp h3) (fun p W2 q => ?_) fun _ _ q => q.elim)
  obtain ⟨f', δ'⟩ := p
  cases f' with
  | nx => exact fun σ' c' hw e' w' _ => QV.mono e1 q .non c' hw e' w' rfl
  | rt v => exact fun x c' hw e' w' r' => QV.mono e1 q x c' hw e' w' r'
  | bk => exact q.elim
  | ct => exact q.elim
/-- a lambda of the law, its reading -/
structure LamOk (P : Program) (w : World) (K : PySem.W.Frag) (mg : Str → Option Value) (base : Heap) (cv : Str → Value) (N : List Str) (sc : Scope) (cells0 : List (Str × Addr)) (k : Nat) (L : LamI) (F : Env → M RV) : Prop where
  S : LamX.LamS sc L.scope
  bind : ∀ (pm cv ctv : Value), bindArgs (PySem.W.kla_fn "<lambda>" L.qual L.params L.body L.scope (cloFrom cells0 L.scope.names []) pm cv ctv) ⟨[], []⟩ = pure []
  body : ∀ (A : Around) (outer : List PySem.Env) (s : Shared) (H : Hp) (E : XK) (f c' : Addr), Room k (A.deeper (lamE L (cloFrom cells0 L.scope.names []) s.heap.objs.size f c')) → DE (fun _ : Unit => lamC P w K mg base N A outer s H E L (cloFrom cells0 L.scope.names []) f c') ⟨K, E, cv⟩ L.body F
open Classical in
noncomputable def pickL (cells0 : List (Str × Addr)) : List (LamI × (Env → M RV)) → LamI → List (Str × Addr) → Option (Env → M RV)
  | [], _, _ => none
  | (L0, F) :: r, L, cl => if L = L0 ∧ cl = cloFrom cells0 L0.scope.names [] then some F else pickL cells0 r L cl
theorem pickL_mem {cells0 : List (Str × Addr)} {L : LamI} {cl : List (Str × Addr)} {F : Env → M RV} : ∀ {tab : List (LamI × (Env → M RV))}, pickL cells0 tab L cl = some F → (L, F) ∈ tab ∧ cl = cloFrom cells0 L.scope.names []
  | [], h => by cases h
  | (L0, F0) :: r, h => by
    unfold pickL at h
    split at h
    · rename_i z
      cases h
      obtain ⟨rfl, z⟩ := z
      exact ⟨List.mem_cons_self, z⟩
    · obtain ⟨h1, h2⟩ := pickL_mem h
      exact ⟨List.mem_cons_of_mem _ h1, h2⟩
noncomputable def evRefuses (cells0 : List (Str × Addr)) (tab : List (LamI × (Env → M RV))) (nm : DX → M RV) (Fb : Env → M (Fl × Env)) (R : Env → M (List RV)) (δ : Env) : M RV := (R δ).bind fun us => match us with
  | [rw_, rt_, .d (.lam L cl)] => (M.opt (pickL cells0 tab L cl)).bind fun F => noEr (refM nm Fb (F δ) rw_ rt_)
  | _ => M.fail
theorem rd_refuses {G : Gh} {N : List Str} {sc : Scope} {cells0 : List (Str × Addr)} {k : Nat} {tab : List (LamI × (Env → M RV))} {nm : DX → M RV} {Fb : Env → M (Fl × Env)} {R : Env → M (List RV)} {t : TA} (hT : ∀ p ∈ tab, LamOk P w K mg base cv N sc cells0 k p.1 p.2) (rt : RdA G t R) :
    RdE G (tCallN cells0 N sc (spRefuses P w K mg base cv (k + 1) nm Fb) t) (evRefuses cells0 tab nm Fb R) := by
  intro c σ δ Q s wk h
  refine rt c σ δ _ s wk (wpM_mono (wpM_bind.mp h) (fun us W1 h1 xs c1 hw e1 w1 r1 => ?_) fun _ _ q => q)
  subst hw
  intro nt hC hb
  split at h1
  case h_2 => exact h1.elim
  case h_1 us rw_ rt_ L cl =>
  obtain ⟨F, hF, h2⟩ := wpM_opt (wpM_bind.mp h1)
  obtain ⟨hmem, rfl⟩ := pickL_mem hF
  have T := hT _ hmem
  match xs, r1 with
  | [xw, xt, xl], .cons ra (.cons rb (.cons rc .nil)) =>
  have rc' : Rep c1 (.lam L (cloFrom cells0 L.scope.names [])) xl := rc
  have rc2 := rc'
  obtain ⟨a, _, _, _, rfl, _⟩ := rc2
  have nk := note_ok w1 hb
  have hAo : ∀ b, c1.Ao b → nt b = none := fun b hA => by
    obtain ⟨o, h3, _⟩ := w1.ao b hA
    exact hb.nt h3
  have hhas : ∀ y ∈ L.scope.names, y.2 = NameKind.free → ∃ c, cells0.lookup y.1 = some c := fun y hy e => hC.has _ (T.S.free y hy e)
  refine ⟨c1.note nt, rw_, rt_, xw, xt, a, F δ, rfl, nk.2, rfl, ra.mono nk.1, rb.mono nk.1, lamV_of T.S hC.inj hhas T.bind T.body hC noted_noteH nk.2 ((s.mono e1).mono nk.1) hC.len (Rep.mono nk.1 _ _ rc') hAo, ?_⟩
  refine wpM_mono (wpM_noEr (E' := fun _ _ => False) h2) (fun v W' q x c3 hw e3 w3 r3 => ?_) fun e W' q => q
  · have eo := ext_out w1 hb e3
    have lk := unN_lk w3 eo.1 fun b hA => hAo b (by rw [← e3.ao]; exact hA)
    exact ⟨eo.1, (QV.mono e1 q) x (c3.unN nt) hw eo.2 (lk.ok w3) (lk.rv r3)⟩
end
end DL
set_option Elab.async false
set_option linter.all false
set_option maxRecDepth 100000
set_option maxHeartbeats 4000000
/-! B12: the call of _law_brefuses as a rule; the law's own def, with lambdas. -/
namespace DL
open PySem PySem.Spec PyProof.Rows L2 L2H HotX RZ
section
variable {G : Gh} {P : Program} {w : World} {mg : Str → Option Value} {base : Heap} {N : List Str} {sc : Scope} {cells0 : List (Str × Addr)} {ι : Type} {𝒳 : ι → Cx}
/-- not _law_brefuses(word, thing, call) and the like: the call -/
theorem de_refuses {k kl j : Nat} {tab : List (LamI × (Env → M RV))} {nm : DX → M RV} {Fb : Env → M (Fl × Env)} {x : Str} {e : Expr} {es : List Expr} {ps : List Str} {p pos : Pos} {R : Env → M (List RV)}
    (hX : ∀ i, (𝒳 i).prog = P ∧ (𝒳 i).w = w ∧ (𝒳 i).K = G.K ∧ (𝒳 i).mg = mg ∧ (𝒳 i).base = base) (hc0 : ∀ i, (𝒳 i).env.cells = cells0) (hN : ∀ i, (𝒳 i).N = N) (hs : ∀ i, (𝒳 i).env.scope = sc) (hfn : ∀ i y, (𝒳 i).fn y = true)
    (B : CalF P w G.K mg base j x ps (spRefuses P w G.K mg base G.cv (kl + 1) nm Fb)) (hr : ∀ i, Room k (𝒳 i).A) (hT : ∀ p ∈ tab, LamOk P w G.K mg base G.cv N sc cells0 kl p.1 p.2) (ha : DA 𝒳 G (e :: es) R)
    (hjk : j ≤ k := by omega) (hg : ∀ i, Gl (𝒳 i) x := by intro _; rfl) (hdb : (x == ("__debug__" : Str)) = false := by decide) (he : ∀ i, starEach (e :: es) (𝒳 i).env = (false, eval e (𝒳 i).env) :: starEach es (𝒳 i).env := by intro _; rfl) (hpl : ∀ i, (backTo pos (starEach es (𝒳 i).env)).any (·.1) = false := by intro _; rfl) :
    DE 𝒳 G (.Call (.Name x p) (e :: es) [] pos) (evRefuses cells0 tab nm Fb R) := by
  obtain ⟨t, pt, rt⟩ := ha
  obtain ⟨f, fd, FB, mB, kB, bB⟩ := B.ex
  refine ⟨tCallN cells0 N sc (spRefuses P w G.K mg base G.cv (kl + 1) nm Fb) t, fun i => ?_, rd_refuses hT rt⟩
  obtain ⟨h1, h2, h3, h4, h5⟩ := hX i
  have := pe_callN (X := 𝒳 i) (x := x) (q := p) (pos := pos) (hfn i) (F := by rw [h1, h2, h3, h4, h5]; exact FB.mono hjk) (hr i) (hg i) (by rw [h4]; exact mB) (by rw [h3]; exact kB) (by rw [h3]; exact bB) (pt i) hdb (he i) (hpl i)
  rw [hc0 i, hN i, hs i] at this
  exact this
end
/-! ### the law -/
section
variable {P : Program} {w : World} {K : PySem.W.Frag} {mg : Str → Option Value} {base : Heap} {cv : Str → Value}
def startT (ns : List Int) (P0 : Addr) (q : Str) : Wd := startW ns ++ [.tbl P0 q]
theorem start_tbl {c : Cf} {P0 : Addr} {q : Str} {ns : List Int} (hw : c.W = startW ns) (wk : WOk c) (h : c.H P0 = some (.tbl #[])) (hA : ∀ a, ¬ c.Ao a) :
    ∃ c' : Cf, c'.H = c.H ∧ c'.W = startT ns P0 q ∧ WOk c' ∧ c'.ren 1 = c.ren 1 := by
  have hl : c.W.length = 2 := by rw [hw]; rfl
  have nP : ∀ l o, c.W[l]? = some o → c.ren l ≠ P0 := fun l o e z => by
    have r := wk.obj l o e
    rw [hw] at e
    match l, e with
    | 0, e => cases e; obtain ⟨vs, h1, _⟩ := r; rw [z, h] at h1; cases h1
    | 1, e => cases e; obtain ⟨vs, h1, _⟩ := r; rw [z, h] at h1; cases h1
    | l + 2, e => simp [startW] at e
  let c1 : Cf := ⟨c.H, fun l => if l = 2 then P0 else c.ren l, c.W ++ [.tbl P0 q], c.Ao⟩
  have ren1 : ∀ l, l < 2 → c1.ren l = c.ren l := fun l hl => by show (if l = 2 then P0 else c.ren l) = _; rw [if_neg (by omega)]
  have ren2 : c1.ren 2 = P0 := by show (if (2 : Nat) = 2 then P0 else c.ren 2) = P0; exact if_pos rfl
  have look : ∀ {l u}, (c.W ++ [MO.tbl P0 q])[l]? = some u → (l < 2 ∧ c.W[l]? = some u) ∨ (l = 2 ∧ u = .tbl P0 q) := fun {l u} e => by
    rcases look_new e with ⟨h1, h2⟩ | ⟨h1, h2⟩
    · exact .inl ⟨by omega, h2⟩
    · exact .inr ⟨by omega, h2⟩
  have av : ∀ b o, c.H b = some o → b ≠ P0 → ¬ Av c b → ¬ Av c1 b := fun b o hb ne n z => by
    rcases z with z | ⟨l, u, hl, m, z⟩
    · exact hA b z
    · rcases look hl with ⟨h1, h2⟩ | ⟨h1, _⟩
      · exact n (.inr ⟨l, u, h2, m, by rw [← ren1 l h1]; exact z⟩)
      · rw [h1, ren2] at z
        exact ne z.symm
  refine ⟨c1, rfl, by show c.W ++ _ = _; rw [hw]; rfl, ⟨fun l u hl2 => ?_, fun l l' u u' h1 m h1' m' e => ?_, fun l u _ _ z => absurd z (hA _), fun a z => absurd z (hA a)⟩, ren1 1 (by omega)⟩
  · rcases look hl2 with ⟨h1, h2⟩ | ⟨h1, h2⟩
    · rw [ren1 l h1]
      have r := wk.obj l u h2
      rw [hw] at h2
      match l, h1, h2, r with
      | 0, _, h2, r =>
        cases h2
        obtain ⟨vs, y1, y2⟩ := r
        refine ⟨vs, y1, ?_⟩
        obtain ⟨vs2, rfl⟩ : ∃ v2 : List V, vs = v2 := ⟨vs, rfl⟩
        have : ∀ {ns : List Int} {vs : List V}, RepVs c (intL ns) vs → RepVs c1 (intL ns) vs := fun {ns} => by
          induction ns with
          | nil => intro vs h; cases h; exact .nil
          | cons i r ih => intro vs h; cases h with | cons a b => exact .cons a (ih b)
        exact this y2
      | 1, _, h2, r =>
        cases h2
        obtain ⟨vs, y1, y2⟩ := r
        refine ⟨vs, y1, ?_⟩
        match vs, y2 with
        | [a, b, d, e], .cons ⟨r1, r1'⟩ (.cons r2 (.cons r3 (.cons r4 .nil))) =>
          exact .cons ⟨by rw [ren1 0 (by omega)]; exact r1, by show 0 < (c.W ++ [_]).length; simp⟩ (.cons r2 (.cons r3 (.cons r4 .nil)))
      | l + 2, h1, _, _ => omega
    · subst h1 h2
      rw [ren2]
      exact ⟨rfl, #[], h, True.intro, fun pos v hv => by simp [codeAmong] at hv⟩
  · rcases look h1 with ⟨a1, a2⟩ | ⟨a1, a2⟩ <;> rcases look h1' with ⟨b1, b2⟩ | ⟨b1, b2⟩
    · have e : c1.ren l = c1.ren l' := e
      rw [ren1 l a1, ren1 l' b1] at e
      exact wk.inj l l' u u' a2 m b2 m' e
    · have e : c1.ren l = c1.ren l' := e
      rw [ren1 l a1, b1, ren2] at e
      exact absurd e (nP l u a2)
    · have e : c1.ren l = c1.ren l' := e
      rw [ren1 l' b1, a1, ren2] at e
      exact absurd e.symm (nP l' u' b2)
    · rw [a1, b1]
def spLawT (K : PySem.W.Frag) (P0 : Addr) : Sp := fun vs H Q _ => ∃ (a : Addr) (ns : List Int), vs = [.ref a] ∧ SqL K H a (ns.map V.int) ∧ ns.length ≤ 63 ∧ H P0 = some (.tbl #[]) ∧ ∀ H', Q (.bl true) H'
theorem okLawT {st first : Stmt} {rest : List Stmt} {f c P0 : Addr} {q : Str} {N : List Str} {k n : Nat} {Fb : Nat → Env → M (Fl × Env)} {kV doc pm ct oc : Value} {an od : Option Addr} {osl : Array (Option Value)}
    (lk : K.lookup f = some ⟨oc, od, .func (PySem.W.fnOf "law" "law" (defArgs st) (defBody st) (defScope st) .none kV doc pm an (.ref c) ct), osl⟩) (hcd : PySem.W.codeIn K (.ref c) "law" = true) (TB : LamX.TabB base mg c P0) (S : FnScope N ["script"] (defScope st)) (hst : defBody st = first :: rest) (hn : N.length = n) (h2 : 2 ≤ n)
    (h1 : ∀ (A : Around) (outer : List PySem.Env) (s : Shared) (H : Hp) (E : XK), Room k (A.deeper (envOfC "law" (defScope st) s.heap.objs.size f (.ref c))) →
      PS (cxOf (L2N.CX P w) P w K mg base N "law" (defScope st) f (.ref c) A outer s H E) first (tAsg (tCall (spStart K) [] E (tCons (tVar 0) tNil)) (gName 1)))
    (hb : ∀ (A : Around) (outer : List PySem.Env) (s : Shared) (H : Hp) (E : XK), Room k (A.deeper (envOfC "law" (defScope st) s.heap.objs.size f (.ref c))) →
      DSs (fun _ : Unit => cxOf (L2N.CX P w) P w K mg base N "law" (defScope st) f (.ref c) A outer s H E) ⟨K, E, cv⟩ rest (Fb s.heap.objs.size))
    (math : ∀ (m : Nat) (ns : List Int), ns.length ≤ 63 → wpM (Fb m (lawEnv n)) (startT ns P0 q) (fun p _ => p.1 = .rt (.d (.bl true))) (fun _ _ => False)) :
    FnOk P w K mg base (L2N.CX P w) (k + 1) f (PySem.W.fnOf "law" "law" (defArgs st) (defBody st) (defScope st) .none kV doc pm an (.ref c) ct) ["script"] (spLawT K P0) := by
  refine fn_of lk hcd S (fun vs H Q E h => ?_) (fun A outer s H vs Q E hr h => ?_)
  · obtain ⟨a, ns, rfl, _⟩ := h
    rfl
  · obtain ⟨a, ns, rfl, hS, hl, hP, q⟩ := h
    obtain ⟨t, pt, rt⟩ := hb A outer s H E hr
    rw [hst]
    refine ⟨_, pss_cons (h1 A outer s H E hr) (pt ()), ?_⟩
    refine ⟨.ref a, by unfold L2.start; rfl, a, ns, rfl, hS, fun c1 hw wk hk hA => ?_⟩
    obtain ⟨c2, e1, e2, w2, e3⟩ := start_tbl hw wk (hk _ _ hP) hA
    rw [← e1, ← e3]
    refine rt c2 _ (lawEnv n) _ (lawEnv_ok hn h2 rfl (by rw [e2]; show 2 ≤ (startW ns ++ _).length; simp [startW])) w2 ?_
    rw [e2]
    refine wpM_mono (math s.heap.objs.size ns hl) (fun p W' hp => ?_) fun _ _ z => z.elim
    obtain ⟨f', δ'⟩ := p
    cases hp
    intro x c' _ _ _ r
    cases r
    exact q _
end
end DL
set_option Elab.async false
set_option linter.all false
set_option maxRecDepth 100000
set_option maxHeartbeats 4000000
/-! DL41: for over a list at a label whose items may be labels; a whole tree of labels made pure. -/
namespace DL
open PySem PySem.Spec PyProof.Rows L2
/-- where it lies (nowhere: it is pure) -/
def AtQ (o : Option Nat) (us : List RV) (W : Wd) : Prop := match o with
  | none => True
  | some l => W[l]? = some (.lst us)
def SrcQ (o : Option Nat) (c : Cf) (J : It) (us : List RV) : Prop := ∃ (Gd : Hp → Prop) (Y : Nat → Hp → V → Hp → Prop), Walk J us.length Gd Y ∧ (∀ c2, Wk c c2 → WOk c2 → AtQ o us c2.W → Gd c2.H) ∧
  ∀ (i : Nat) (x : V) (H2 : Hp) (c2 : Cf) (u : RV), us[i]? = some u → Wk c c2 → WOk c2 → AtQ o us c2.W → Y i c2.H x H2 → ∃ c3, c3.H = H2 ∧ c3.W = c2.W ∧ Ext c2 c3 ∧ WOk c3 ∧ RepRV c3 u x
section
variable {c : Cf} {K : PySem.W.Frag}
theorem srcQ_src {J : It} {xs : List D} (h : Src c J xs) : SrcQ none c J (xs.map RV.d) := by
  obtain ⟨Gd, Y, wk, hG, hY⟩ := h
  refine ⟨Gd, Y, by rw [List.length_map]; exact wk, fun c2 k _ _ => hG c2 k, fun i x H2 c2 u hu k w _ y => ?_⟩
  rw [List.getElem?_map] at hu
  obtain ⟨d, hd, rfl⟩ := Option.map_eq_some_iff.mp hu
  exact hY i x H2 c2 d hd k w y
theorem srcQ_list {l : Nat} {us : List RV} (hl : l < c.W.length) : SrcQ (some l) c (Itl K (c.ren l)) us := by
  have look : ∀ {c2 : Cf}, Wk c c2 → WOk c2 → AtQ (some l) us c2.W → ∃ vs, c2.H (c.ren l) = some (.lst vs) ∧ RepVs c2 us vs := fun {c2} k w h => by
    obtain ⟨vs, e, r⟩ := w.obj l _ h
    rw [k.ren l hl] at e
    exact ⟨vs, e, r⟩
  refine ⟨_, _, Walk.sup (α := { vs : List V // vs.length = us.length }) (Gd := fun vs H => H (c.ren l) = some (.lst vs.1)) (Y := fun vs => YAt vs.1) (fun vs => ?_), fun c2 k w h => ?_, fun i x H2 c2 u hu k w h y => ?_⟩
  · have := walk_list (K := K) (a := c.ren l) (xs := vs.1)
    rw [vs.2] at this
    exact this.mono (fun H h => SqL.of h) fun i H x H' _ _ y => y
  · obtain ⟨vs, h1, h2⟩ := look k w h
    exact ⟨⟨vs, (paired_len h2).symm⟩, h1⟩
  · obtain ⟨⟨vs, hv⟩, h1, rfl, hx⟩ := y
    obtain ⟨vs', h2, r⟩ := look k w h
    dsimp only at h1 hx
    rw [h2] at h1
    cases h1
    obtain ⟨v, h4, rv⟩ := paired_get r hu
    rw [h4] at hx
    cases hx
    exact ⟨c2, rfl, rfl, Ext.refl c2, w, rv⟩
end
def RdQ (G : Gh) (wi : TI) (S : Env → M (Option Nat × List RV)) : Prop := ∀ (c : Cf) (σ : L2.St) (δ : Env) (R : It → Hp → Prop), SOk σ δ c → WOk c → wpM (S δ) c.W (fun p W' => ∀ J c', c'.W = W' → Ext c c' → WOk c' → SrcQ p.1 c' J p.2 → R J c'.H) (QE G c) → wi σ c.H R
/-- what is walked: a pure tuple or list, a list at a label -/
def walkOf (W : Wd) : RV → Option (Bool × Option Nat × List RV)
  | .d (.tup xs) => some (true, none, xs.map .d)
  | .d (.lst xs) => some (false, none, xs.map .d)
  | .r l => match W[l]? with
    | some (.lst us) => some (false, some l, us)
    | some (.fz (.lst xs)) => some (false, none, xs.map .d)
    | _ => none
  | _ => none
def evWk (Fe : Env → M RV) (δ : Env) : M (Option Nat × List RV) := (Fe δ).bind fun u => M.look fun W => (walkOf W u).map (·.2)
section
variable {ι : Type} {𝒳 : ι → Cx} {G : Gh} {e tg : Expr} {Fe : Env → M RV} {pos : Pos}
def DIQ (𝒳 : ι → Cx) (G : Gh) (tg e : Expr) (S : Env → M (Option Nat × List RV)) : Prop := ∃ wi, (∀ i, PI (𝒳 i) tg e wi) ∧ RdQ G wi S
theorem walkOf_ok {c : Cf} {K : PySem.W.Frag} {u : RV} {x : V} {b : Bool} {o : Option Nat} {us : List RV} (w : WOk c) (r : RepRV c u x) (h : walkOf c.W u = some (b, o, us)) :
    ∃ a, x = .ref a ∧ (if b = true then (∃ vs, SqT K c.H a vs) ∧ SrcQ o c (Itt K a) us else (∃ vs, SqL K c.H a vs) ∧ SrcQ o c (Itl K a) us) := by
  have lst : ∀ (xs : List D) (x : V), Rep c (.lst xs) x → ∃ a, x = .ref a ∧ ((∃ vs, SqL K c.H a vs) ∧ SrcQ none c (Itl K a) (xs.map RV.d)) := fun xs x r => by
    have r2 := r
    obtain ⟨a, vs, rfl, h1, _⟩ := r2
    exact ⟨a, rfl, ⟨vs, SqL.of h1⟩, srcQ_src (src_list r)⟩
  cases u with
  | d y =>
    cases y <;> simp [walkOf] at h
    case lst xs =>
      obtain ⟨rfl, rfl, rfl⟩ := h
      exact lst xs x r
    case tup xs =>
      obtain ⟨rfl, rfl, rfl⟩ := h
      have r2 := r
      obtain ⟨a, vs, rfl, h1, _⟩ := r2
      exact ⟨a, rfl, ⟨vs, SqT.of h1⟩, srcQ_src (src_tup r)⟩
  | r l =>
    obtain ⟨rfl, hl⟩ := r
    simp only [walkOf] at h
    split at h
    · rename_i us' e
      cases h
      obtain ⟨vs, h1, _⟩ := w.obj l _ e
      exact ⟨_, rfl, ⟨vs, SqL.of h1⟩, srcQ_list hl⟩
    · rename_i xs e
      cases h
      exact lst xs _ (w.obj l _ e)
    · cases h
theorem diq_any (hK : ∀ i, (𝒳 i).K = G.K) (h : DE 𝒳 G e Fe) : DIQ 𝒳 G tg e (evWk Fe) := by
  obtain ⟨t, p, r⟩ := h
  refine ⟨fun σ H R => iList G.K t σ H R ∨ iTup G.K t σ H R, fun i => ?_, fun c σ δ R s w h => ?_⟩
  · have h1 := pi_list (tg := tg) (p i)
    have h2 := pi_tup (tg := tg) (p i)
    rw [hK i] at h1 h2
    exact PI.or h1 h2
  have hb := wpM_bind.mp h
  cases hF : Fe δ c.W with
  | none => unfold wpM at hb; rw [hF] at hb; exact hb.elim
  | some q =>
    obtain ⟨z, W1⟩ := q
    cases z with
    | error x =>
      refine .inl (r c σ δ _ s w ?_)
      unfold wpM at hb ⊢
      rw [hF] at hb ⊢
      exact hb
    | ok u =>
      rw [wpM_val hF] at hb
      obtain ⟨p2, hp, q⟩ := wpM_look hb
      obtain ⟨⟨b, o, us⟩, hw, rfl⟩ := Option.map_eq_some_iff.mp hp
      cases b with
      | true =>
        refine .inr (r c σ δ _ s w ((wpM_val hF).mpr fun x c1 hw1 e1 w1 r1 => ?_))
        subst hw1
        obtain ⟨a, rfl, h1, h2⟩ := walkOf_ok (K := G.K) w1 r1 hw
        exact ⟨a, rfl, h1, q _ c1 rfl e1 w1 h2⟩
      | false =>
        refine .inl (r c σ δ _ s w ((wpM_val hF).mpr fun x c1 hw1 e1 w1 r1 => ?_))
        subst hw1
        obtain ⟨a, rfl, h1, h2⟩ := walkOf_ok (K := G.K) w1 r1 hw
        exact ⟨a, rfl, h1, q _ c1 rfl e1 w1 h2⟩
end
open Classical in
noncomputable def staysQ (o : Option Nat) (us : List RV) : M Unit := fun W => if AtQ o us W then some (.ok (), W) else none
theorem w_staysQ {o : Option Nat} {us : List RV} {W : Wd} {Q : Unit → Wd → Prop} {E : DX → Wd → Prop} : wpM (staysQ o us) W Q E = (AtQ o us W ∧ Q () W) := by
  unfold wpM staysQ
  by_cases h : AtQ o us W
  · rw [if_pos h]; exact propext ⟨fun q => ⟨h, q⟩, fun q => q.2⟩
  · rw [if_neg h]; exact propext ⟨fun q => q.elim, fun q => h q.1⟩
noncomputable def goForQ (o : Option Nat) (all : List RV) (T : RV → Env → M Env) (B : Env → M (Fl × Env)) : List RV → Env → M (Fl × Env)
  | [], δ => (staysQ o all).bind fun _ => M.ret (.nx, δ)
  | u :: us, δ => (staysQ o all).bind fun _ => (T u δ).bind fun δ1 => (B δ1).bind fun p => match p.1 with
    | .nx => goForQ o all T B us p.2
    | .ct => goForQ o all T B us p.2
    | .bk => M.ret (.nx, p.2)
    | .rt v => M.ret (.rt v, p.2)
noncomputable def evForQ (S : Env → M (Option Nat × List RV)) (T : RV → Env → M Env) (B : Env → M (Fl × Env)) (δ : Env) : M (Fl × Env) := (S δ).bind fun p => goForQ p.1 p.2 T B p.2 δ
section
variable {ι : Type} {𝒳 : ι → Cx} {G : Gh} {e tg : Expr} {Fe : Env → M RV} {pos : Pos} {T : RV → Env → M Env} {B : Env → M (Fl × Env)}
theorem goForQ_at {o : Option Nat} {all us : List RV} {δ : Env} {W : Wd} {Q : Fl × Env → Wd → Prop} {Er : DX → Wd → Prop} (h : wpM (goForQ o all T B us δ) W Q Er) : AtQ o all W := by
  cases us with
  | nil => exact ((w_staysQ (Q := _)).mp (wpM_bind.mp h)).1
  | cons d ds => exact ((w_staysQ (Q := _)).mp (wpM_bind.mp h)).1
theorem ds_forQ {vs : List Nat} {S : Env → M (Option Nat × List RV)} {body : List Stmt} (hp : ∀ i, PassesOwn (model (𝒳 i).prog (𝒳 i).w) (𝒳 i).A (𝒳 i).env (𝒳 i).xe) (hc : ∀ i, (𝒳 i).calm = true) (hi : DIQ 𝒳 G tg e S) (hg : DG 𝒳 G tg vs T) (hb : DSs 𝒳 G body B)
    (hs : ∀ i, ∀ x, foldedSetIterable e (𝒳 i).env x = pure x := by intro _ _; rfl) : DS 𝒳 G (.For tg e body [] pos) (evForQ S T B) := by
  obtain ⟨wi, pi, ri⟩ := hi
  obtain ⟨g, pg, rg⟩ := hg
  obtain ⟨t, pt, rt⟩ := hb
  refine ⟨_, fun i => ps_for (hp i) (hc i) (pi i) (pg i) (pt i) (hs i), fun c σ δ D s w h => ?_⟩
  refine ri c σ δ _ s w (wpM_mono (wpM_bind.mp h) (fun p W1 h1 J c1 hw e1 w1 src => ?_) fun _ _ q => q)
  subst hw
  obtain ⟨o, us⟩ := p
  obtain ⟨Gd, Y, wk, hG, hY⟩ := src
  refine for_it wk (fun i σ H => ∃ c2 δ2, c2.H = H ∧ Ext c1 c2 ∧ WOk c2 ∧ SOk σ δ2 c2 ∧ wpM (goForQ o us T B (us.drop i) δ2) c2.W (QS c2 D) (QE G c2)) ⟨c1, δ, rfl, Ext.refl c1, w1, s.mono e1, wpM_mono h1 (fun _ _ q => q.mono e1) fun _ _ q => q.mono e1⟩ ?_ ?_ ?_
  · rintro i σ H _ ⟨c2, δ2, rfl, e2, w2, s2, h2⟩
    exact hG c2 e2.wk w2 (goForQ_at h2)
  · rintro i x σ H H' hi ⟨c2, δ2, rfl, e2, w2, s2, h2⟩ y
    have hst := goForQ_at h2
    rw [List.drop_eq_getElem_cons hi] at h2
    have h2 := ((w_staysQ (Q := _)).mp (wpM_bind.mp h2)).2
    obtain ⟨c3, rfl, hw3, e3, w3, r3⟩ := hY i x H' c2 _ (List.getElem?_eq_getElem hi) e2.wk w2 hst y
    rw [← hw3] at h2
    refine rg c3 x us[i] σ δ2 _ (s2.mono e3) w3 r3 (wpM_mono (wpM_bind.mp h2) (fun δ4 W4 h4 σ4 c4 hw e4 w4 s4 _ _ => ?_) fun _ _ q => q.mono e3)
    subst hw
    refine rt c4 σ4 δ4 _ s4 w4 (wpM_mono (wpM_bind.mp h4) (fun p W5 h5 => ?_) fun _ _ q => (q.mono e3).mono e4)
    obtain ⟨f, δ5⟩ := p
    cases f with
    | nx =>
      intro σ5 c5 hw e5 w5 s5
      subst hw
      exact ⟨c5, δ5, rfl, ((e2.trans e3).trans e4).trans e5, w5, s5, wpM_mono h5 (fun _ _ q => ((q.mono e3).mono e4).mono e5) fun _ _ q => ((q.mono e3).mono e4).mono e5⟩
    | ct =>
      intro σ5 c5 hw e5 w5 s5
      subst hw
      exact ⟨c5, δ5, rfl, ((e2.trans e3).trans e4).trans e5, w5, s5, wpM_mono h5 (fun _ _ q => ((q.mono e3).mono e4).mono e5) fun _ _ q => ((q.mono e3).mono e4).mono e5⟩
    | bk => exact fun σ5 c5 hw e5 w5 s5 => h5 σ5 c5 hw ((e3.trans e4).trans e5) w5 s5
    | rt v => exact fun x c5 hw e5 w5 r5 => h5 x c5 hw ((e3.trans e4).trans e5) w5 r5
  · rintro σ H ⟨c2, δ2, rfl, e2, w2, s2, h2⟩
    rw [List.drop_length] at h2
    have h2 := ((w_staysQ (Q := _)).mp (wpM_bind.mp h2)).2
    exact h2 σ c2 rfl (Ext.refl c2) w2 s2
end
/-! ### a whole tree -/
def freezeAt (l : Nat) (d : D) : M D := fun W => match W[l]? with
  | some (.fz _) => none
  | some _ => some (.ok d, W.set l (.fz d))
  | none => none
mutual
def toDD : Nat → RV → M D
  | _, .d x => M.ret x
  | 0, .r _ => M.fail
  | n + 1, .r l => fun W => match W[l]? with
    | some (.lst us) => ((toDDs n us).bind fun ds => freezeAt l (.lst ds)) W
    | some (.fz d) => some (.ok d, W)
    | _ => none
def toDDs : Nat → List RV → M (List D)
  | _, [] => M.ret []
  | n, u :: us => (toDD n u).bind fun x => (toDDs n us).bind fun xs => M.ret (x :: xs)
end
theorem toDD_ok : ∀ (n : Nat), (∀ {c : Cf} {v : RV} {x : V} {Q : D → Wd → Prop} {E : DX → Wd → Prop}, WOk c → RepRV c v x → wpM (toDD n v) c.W Q E → ∃ c1 d, c1.H = c.H ∧ Ext c c1 ∧ WOk c1 ∧ Rep c1 d x ∧ Q d c1.W) ∧
    ∀ {us : List RV} {c : Cf} {vs : List V} {Q : List D → Wd → Prop} {E : DX → Wd → Prop}, WOk c → RepVs c us vs → wpM (toDDs n us) c.W Q E → ∃ c1 ds, c1.H = c.H ∧ Ext c c1 ∧ WOk c1 ∧ RepL c1 ds vs ∧ Q ds c1.W := by
  intro n
  have many : (∀ {c : Cf} {v : RV} {x : V} {Q : D → Wd → Prop} {E : DX → Wd → Prop}, WOk c → RepRV c v x → wpM (toDD n v) c.W Q E → ∃ c1 d, c1.H = c.H ∧ Ext c c1 ∧ WOk c1 ∧ Rep c1 d x ∧ Q d c1.W) →
      ∀ {us : List RV} {c : Cf} {vs : List V} {Q : List D → Wd → Prop} {E : DX → Wd → Prop}, WOk c → RepVs c us vs → wpM (toDDs n us) c.W Q E → ∃ c1 ds, c1.H = c.H ∧ Ext c c1 ∧ WOk c1 ∧ RepL c1 ds vs ∧ Q ds c1.W := fun one us => by
    induction us with
    | nil =>
      intro c vs Q E w r h
      cases r
      unfold toDDs at h
      exact ⟨c, [], rfl, Ext.refl c, w, rfl, h⟩
    | cons u us ih =>
      intro c vs Q E w r h
      cases r with
      | cons r t =>
        unfold toDDs at h
        obtain ⟨c1, d, h1, e1, w1, r1, q1⟩ := one w r (wpM_bind.mp h)
        obtain ⟨c2, ds, h2, e2, w2, r2, q2⟩ := ih w1 (RepVs.mono e1 t) (wpM_bind.mp q1)
        exact ⟨c2, d :: ds, h2.trans h1, e1.trans e2, w2, ⟨_, _, rfl, Rep.mono e2 _ _ r1, r2⟩, q2⟩
  induction n with
  | zero =>
    have one : ∀ {c : Cf} {v : RV} {x : V} {Q : D → Wd → Prop} {E : DX → Wd → Prop}, WOk c → RepRV c v x → wpM (toDD 0 v) c.W Q E → ∃ c1 d, c1.H = c.H ∧ Ext c c1 ∧ WOk c1 ∧ Rep c1 d x ∧ Q d c1.W := fun {c v x Q E} w r h => by
      cases v with
      | d y => unfold toDD at h; exact ⟨c, y, rfl, Ext.refl c, w, r, h⟩
      | r l => unfold toDD at h; exact h.elim
    exact ⟨one, many one⟩
  | succ n ih =>
    have many' : ∀ {us : List RV} {c : Cf} {vs : List V} {Q : List D → Wd → Prop} {E : DX → Wd → Prop}, WOk c → RepVs c us vs → wpM (toDDs n us) c.W Q E → ∃ c1 ds, c1.H = c.H ∧ Ext c c1 ∧ WOk c1 ∧ RepL c1 ds vs ∧ Q ds c1.W := (ih (fun one us => by
      induction us with
      | nil =>
        intro c vs Q E w r h
        cases r
        unfold toDDs at h
        exact ⟨c, [], rfl, Ext.refl c, w, rfl, h⟩
      | cons u us ih =>
        intro c vs Q E w r h
        cases r with
        | cons r t =>
          unfold toDDs at h
          obtain ⟨c1, d, h1, e1, w1, r1, q1⟩ := one w r (wpM_bind.mp h)
          obtain ⟨c2, ds, h2, e2, w2, r2, q2⟩ := ih w1 (RepVs.mono e1 t) (wpM_bind.mp q1)
          exact ⟨c2, d :: ds, h2.trans h1, e1.trans e2, w2, ⟨_, _, rfl, Rep.mono e2 _ _ r1, r2⟩, q2⟩)).2
    have one : ∀ {c : Cf} {v : RV} {x : V} {Q : D → Wd → Prop} {E : DX → Wd → Prop}, WOk c → RepRV c v x → wpM (toDD (n + 1) v) c.W Q E → ∃ c1 d, c1.H = c.H ∧ Ext c c1 ∧ WOk c1 ∧ Rep c1 d x ∧ Q d c1.W := fun {c v x Q E} w r h => by
      cases v with
      | d y => unfold toDD at h; exact ⟨c, y, rfl, Ext.refl c, w, r, h⟩
      | r l =>
        obtain ⟨rfl, hl⟩ := r
        unfold toDD at h
        cases e : c.W[l]? with
        | none => simp only [wpM, e] at h
        | some o =>
          have ob := w.obj l o e
          cases o with
          | fz y =>
            simp only [wpM, e] at h
            exact ⟨c, y, rfl, Ext.refl c, w, ob, h⟩
          | lst us =>
            obtain ⟨vs, h1, h2⟩ := ob
            have h : wpM ((toDDs n us).bind fun ds => freezeAt l (.lst ds)) c.W Q E := by
              simp only [wpM, e] at h
              exact h
            obtain ⟨c1, ds, g1, e1, w1, r1, q1⟩ := many' w h2 (wpM_bind.mp h)
            unfold wpM freezeAt at q1
            cases e4 : c1.W[l]? with
            | none => rw [e4] at q1; exact q1.elim
            | some m =>
              rw [e4] at q1
              have hm : m.mut := by cases m <;> first | exact trivial | exact q1.elim
              have q2 : Q (.lst ds) (c1.W.set l (.fz (.lst ds))) := by cases m <;> first | exact q1 | exact q1.elim
              have ex : Ext c1 (c1.fz l (.lst ds)) := Ext.fz
              have rn : c1.ren l = c.ren l := e1.ren l hl
              have rr : Rep (c1.fz l (.lst ds)) (.lst ds) (.ref (c1.ren l)) := ⟨c1.ren l, vs, rfl, by rw [rn]; show c1.H _ = _; rw [g1]; exact h1, w1.fzAv e4 hm, RepL.mono ex _ _ r1⟩
              exact ⟨c1.fz l (.lst ds), .lst ds, g1, e1.trans ex, w1.fz e4 hm rr, by rw [← rn]; exact rr, q2⟩
          | dK _ => simp only [wpM, e] at h
          | dT _ => simp only [wpM, e] at h
          | ins _ _ => simp only [wpM, e] at h
          | tbl _ _ => simp only [wpM, e] at h
    exact ⟨one, many one⟩
def evDeep (n : Nat) (Fe : Env → M RV) (δ : Env) : M RV := (Fe δ).bind fun u => (toDD n u).bind fun d => M.ret (.d d)
theorem de_deep {ι : Type} {𝒳 : ι → Cx} {G : Gh} {e : Expr} {Fe : Env → M RV} (n : Nat) (h : DE 𝒳 G e Fe) : DE 𝒳 G e (evDeep n Fe) := by
  obtain ⟨t, p, r⟩ := h
  refine ⟨t, p, fun c σ δ Q s w h => ?_⟩
  refine r c σ δ _ s w (wpM_mono (wpM_bind.mp h) (fun u W1 h1 x c1 hw e1 w1 r1 => ?_) fun _ _ q => q)
  subst hw
  obtain ⟨c2, d, h2, e2, w2, r2, q⟩ := (toDD_ok n).1 w1 r1 (wpM_bind.mp h1)
  rw [← h2]
  exact q x c2 rfl (e1.trans e2) w2 r2
end DL
set_option Elab.async false
set_option linter.all false
set_option maxRecDepth 100000
set_option maxHeartbeats 4000000
/-! DL42: xs.count(y), of items of any depth. -/
namespace L2
open PySem PySem.Spec PyProof.Rows
def rCountD (K : PySem.W.Frag) : V → List V → Hp → VK → Prop := fun x xs H Q => ∃ (a : Addr) (y : V) (d : PyData) (ds : List PyData), x = V.ref a ∧ xs = [y] ∧ Dp K H (V.ref a) (.list ds) ∧ Dp K H y d ∧
  SeqAt.shaped (.list ds) = true ∧ SeqAt.shaped d = true ∧ Q (.int (ds.countP fun z => PyData.eqv z d : Nat)) H
theorem mt_countD {X : Cx} (hu : X.A.units + 65 < cLine) : MtR X "list.count" (rCountD X.K) := by
  intro pins s σ H x xs v us Q I rx rxs h
  obtain ⟨a, y, d, ds, rfl, rfl, hl, hy, sl, sd, q⟩ := h
  cases rx
  cases rxs with
  | cons ry rt =>
    rename_i uy ut
    cases rt
    obtain ⟨bs, r1⟩ := Dp.reads I d y uy hy ry
    have hxs : PyData.canLayAll0 ds = true := SeqAt.canLay_of_shaped sl
    have hroom : X.A.units + 1 + min (PyData.depthAll ds) d.depth < cLine := room_in_shaped sd hu
    cases hl with
    | lst hs ha =>
      obtain ⟨its, rv, ⟨⟨cls, dd, data, sls⟩, n, ho, hc, hdn, hdt⟩, hlen⟩ := I.list hs
      simp only at hc hdt
      subst hc hdt
      obtain ⟨as, h4⟩ := Dp.readsAll I ds _ its ha rv
      have hmap : its.map (SeqAt.readOf s.heap) = ds := SeqAt.readsAll_map ds its as hxs h4
      refine call_meets PySem.F.slot_list_count ⟨_, ho, rfl⟩ PySem.F.entry_list_count (PySem.F.args_list_count_2 _ _)
        (SeqAt.list_countAt a its.toArray n dd sls uy (fun u => PyData.eqv (SeqAt.readOf s.heap u) d)) ⟨ho, SeqAt.items_eqAt (vs := its.toArray) (show ReadsAll s.heap its.toArray.toList ds as from h4) r1 hxs (SeqAt.canLay_of_shaped sd) hroom, ?_⟩
      have ec : its.toArray.toList.countP (fun u => PyData.eqv (SeqAt.readOf s.heap u) d) = ds.countP fun z => PyData.eqv z d := by
        rw [← hmap, List.countP_map] <;> rfl
      refine ⟨.int (ds.countP fun z => PyData.eqv z d : Nat), H, I.tok _, ⟨s.toks, ?_⟩, q⟩
      rw [ec]
end L2
namespace DL
open PySem PySem.Spec PyProof.Rows L2
def mCountL (u : RV) : List RV → M RV
  | [.d y] => M.look fun W => (peek W u).bind fun a => match a with
    | .lst xs => (toPy.toPyL xs).bind fun ps => (toPy y).bind fun q => if SeqAt.shaped (.list ps) = true ∧ SeqAt.shaped q = true then some (.d (.int (ps.countP fun z => PyData.eqv z q : Nat))) else none
    | _ => none
  | _ => M.fail
theorem md_countL {G : Gh} : MthD G (rCountD G.K) mCountL := by
  intro c x u xs us Q w r rs h
  match us, rs, h with
  | [], _, h => exact h.elim
  | [.r _], _, h => exact h.elim
  | .d _ :: _ :: _, _, h => exact h.elim
  | .r _ :: _ :: _, _, h => exact h.elim
  | [.d y], rs, h =>
    obtain ⟨z, rfl, ry⟩ := vs1 rs
    obtain ⟨rv, e, q⟩ := wpM_look h
    obtain ⟨a, ha, e⟩ := Option.bind_eq_some_iff.mp e
    split at e
    · rename_i ds
      obtain ⟨ps, hps, e⟩ := Option.bind_eq_some_iff.mp e
      obtain ⟨py, hpy, e⟩ := Option.bind_eq_some_iff.mp e
      split at e
      · rename_i hs
        cases e
        have d1 : Dp G.K c.H x (.list ps) := peek_ok w r ha (by simp [toPy, hps])
        have d2 : Dp G.K c.H z py := toPy_ok y z py ry hpy
        cases d1 with
        | lst h1 h2 => exact ⟨_, z, py, ps, rfl, rfl, .lst h1 h2, d2, hs.1, hs.2, QV.here (v := .d (.int _)) q w rfl⟩
      · cases e
    · cases e
end DL
set_option Elab.async false
set_option linter.all false
set_option maxRecDepth 100000
set_option maxHeartbeats 400000
/-! DL43: zip of a tuple and a list. -/
namespace RZ
open PySem PySem.Spec PyProof.Rows L2
abbrev zmH1 (h : Heap) (a : Addr) : Heap := h.push { cls := .type "tuple_iterator", data := .fields #[.ref a, .int 0 0] }
abbrev zmH2 (h : Heap) (a b : Addr) : Heap := (zmH1 h a).push { cls := .type "list_iterator", data := .fields #[.ref b, .int 0 0] }
abbrev zmH3 (h : Heap) (a b : Addr) : Heap := (zmH2 h a b).push { cls := .type "tuple", data := .seq #[.ref h.objs.size, .ref (zmH1 h a).objs.size] }
abbrev zmH4 (h : Heap) (a b : Addr) : Heap := (zmH3 h a b).push { cls := .type "tuple", data := .seq #[.none, .none] }
abbrev zmH5 (h : Heap) (a b : Addr) : Heap := (zmH4 h a b).push { cls := .type "zip", data := .fields #[.none, .bool false, .bool false, .ref (zmH2 h a b).objs.size, .ref (zmH3 h a b).objs.size] }
theorem meets_zm (a b : Addr) (xs ys : Array Value) :
    Meets (Builtin.«zip.__new__» ⟨[.type "zip", .ref a, .ref b], []⟩) (fun _ R s => s.heap.IsTuple a xs ∧ s.heap.IsList b ys ∧ R (.ok (.ret (.ref (zmH4 s.heap a b).objs.size))) { s with heap := zmH5 s.heap a b }) :=
  .of_wp fun prog w A R s h => by
    obtain ⟨hp, g, d, tk, os⟩ := s; obtain ⟨ha, hb, h⟩ := h
    have hsub := sub_zip
    have hL1 : Heap.IsTuple (Shared.heap ⟨hp, g, d, tk, os⟩) a xs := ha
    have hL2 : Heap.IsList (Shared.heap ⟨hp.push { cls := .type "tuple_iterator", data := .fields #[.ref a, .int 0 0] }, g, d, tk, os⟩) b ys := Heap.IsList.push hb _
    wp_walk using wpAny_pyIter_tuple hL1, wpAny_pyIter_list hL2
    exact ⟨_, rfl, h⟩
section
variable {prog : Program} {w : World} {A : Around} {E : Value → Shared → Prop} {s : Shared}
theorem call_zm {a b : Addr} {xs ys : Array Value} {Q : Value → Shared → Prop} (ha : s.heap.IsTuple a xs) (hb : s.heap.IsList b ys)
    (h : ∀ h', IsZip h' (s.heap.objs.size + 4) (s.heap.objs.size + 2) (s.heap.objs.size + 3) .none → IsTupOf2 h' (s.heap.objs.size + 2) (.ref s.heap.objs.size) (.ref (s.heap.objs.size + 1)) →
      IsTupOf2 h' (s.heap.objs.size + 3) .none .none → h'.IsTupleIter s.heap.objs.size a 0 → h'.IsListIter (s.heap.objs.size + 1) b 0 → (∀ c o, s.heap.get? c = some o → h'.get? c = some o) → Q (.ref (s.heap.objs.size + 4)) { s with heap := h' }) :
    wpAny (model prog w) A (call (.type "zip") [.ref a, .ref b]) Q E s := by
  refine callType_new F.called_zip (by decide) (F.typeCall_zip_2 _ _) (F.newCall_zip_2 _ _) (fun obj => F.args_object_init_3 obj _ _) F.entry_zip_new (meets_zm a b xs ys) ⟨ha, hb, ?_⟩
  have z1 : (zmH1 s.heap a).objs.size = s.heap.objs.size + 1 := Heap.size_push ..
  have z2 : (zmH2 s.heap a b).objs.size = s.heap.objs.size + 2 := by rw [Heap.size_push, z1]
  have z3 : (zmH3 s.heap a b).objs.size = s.heap.objs.size + 3 := by rw [Heap.size_push, z2]
  have z4 : (zmH4 s.heap a b).objs.size = s.heap.objs.size + 4 := by rw [Heap.size_push, z3]
  have k := @Heap.get?_push_of_some
  have g5 : (zmH5 s.heap a b).get? (zmH4 s.heap a b).objs.size = some _ := Heap.get?_push_size _ rfl
  have g4 : (zmH5 s.heap a b).get? (zmH3 s.heap a b).objs.size = some _ := Heap.get?_push_of_some _ (Heap.get?_push_size _ rfl)
  have g3 : (zmH5 s.heap a b).get? (zmH2 s.heap a b).objs.size = some _ := Heap.get?_push_of_some _ (Heap.get?_push_of_some _ (Heap.get?_push_size _ rfl))
  have g2 : (zmH5 s.heap a b).get? (zmH1 s.heap a).objs.size = some _ := Heap.get?_push_of_some _ (Heap.get?_push_of_some _ (Heap.get?_push_of_some _ (Heap.get?_push_size _ rfl)))
  have g1 : (zmH5 s.heap a b).get? s.heap.objs.size = some _ := Heap.get?_push_of_some _ (Heap.get?_push_of_some _ (Heap.get?_push_of_some _ (Heap.get?_push_of_some _ (Heap.get?_push_size _ rfl))))
  show _ ∧ _
  rw [z2, z3, z4] at g5
  rw [z1, z2] at g3
  rw [z3] at g4
  rw [z1] at g2
  rw [z4]
  exact ⟨⟨_, g5, rfl⟩, h _ g5 g3 g4 ⟨_, g1, rfl, rfl⟩ ⟨_, g2, rfl, rfl⟩ fun c o x => Heap.get?_push_of_some _ (Heap.get?_push_of_some _ (Heap.get?_push_of_some _ (Heap.get?_push_of_some _ (Heap.get?_push_of_some _ x))))⟩
end
def ItzM (K : PySem.W.Frag) (a b : Addr) : It :=
  ⟨fun i H => ∃ (xs ys : List V) (x y : V), SqT K H a xs ∧ SqL K H b ys ∧ xs[i]? = some x ∧ ys[i]? = some y,
    fun i H v H' => ∃ T x y, v = .ref T ∧ H T = none ∧ H' = upd H T (.tup [x, y]) ∧ (∀ xs, SqT K H a xs → xs[i]? = some x) ∧ ∀ ys, SqL K H b ys → ys[i]? = some y,
    fun i H => ∃ xs ys : List V, SqT K H a xs ∧ SqL K H b ys ∧ i ≤ xs.length ∧ i ≤ ys.length ∧ (i = xs.length ∨ i = ys.length)⟩
structure ZmOk (z TI TO i1 i2 a b : Addr) : Prop where
  lt : a < i1 ∧ b < i1 ∧ i1 < i2 ∧ i2 < TI ∧ TI < TO ∧ TO < z
theorem zm_ok (I l1 l2 : Nat) (h1 : l1 < I) (h2 : l2 < I) : ZmOk (I + 4) (I + 2) (I + 3) I (I + 1) l1 l2 := by
  constructor
  show (l1 : Nat) < I ∧ l2 < I ∧ I < I + 1 ∧ I + 1 < I + 2 ∧ I + 2 < I + 3 ∧ I + 3 < I + 4
  omega
theorem nm2 {x y a : Nat} (h1 : y < x) (h2 : a < x) : x ∉ [y, a] := by
  simp only [List.mem_cons, List.not_mem_nil, or_false, not_or]
  exact ⟨Nat.ne_of_gt h1, Nat.ne_of_gt h2⟩
theorem ZmOk.sep {z TI TO i1 i2 a b : Addr} (D : ZmOk z TI TO i1 i2 a b) : ZipSep2 z TI TO i1 i2 [i1, a] [i2, b] := by
  obtain ⟨h1, h2, h3, h4, h5, h6⟩ := D.lt
  have l1 : (i1 : Nat) < TI := Nat.lt_trans h3 h4
  have l2 : (i1 : Nat) < TO := Nat.lt_trans l1 h5
  have l3 : (i2 : Nat) < TO := Nat.lt_trans h4 h5
  exact ⟨Nat.ne_of_lt (Nat.lt_trans h5 h6), Nat.ne_of_lt h6, Nat.ne_of_lt h5, Nat.ne_of_gt l1, List.mem_cons_self, nm2 (Nat.lt_trans l2 h6) (Nat.lt_trans h1 (Nat.lt_trans l2 h6)), nm2 l2 (Nat.lt_trans h1 l2), Nat.ne_of_gt h4, List.mem_cons_self,
    nm2 (Nat.lt_trans l3 h6) (Nat.lt_trans h2 (Nat.lt_trans l2 h6)), nm2 l3 (Nat.lt_trans h2 l2), by
      simp only [List.mem_cons, List.not_mem_nil, or_false, not_or]
      exact ⟨Nat.ne_of_lt h3, Nat.ne_of_gt h2⟩, nm2 h3 (Nat.lt_trans h1 h3)⟩
theorem turn_zm {P : Program} {w : World} {K : PySem.W.Frag} {elts : List Expr} {kk : Nat} {tpos : Pos} {a b z TI TO i1 i2 : Addr} (D : ZmOk z TI TO i1 i2 a b) :
    Turn P w K (.Tuple elts kk tpos) (ItzM K a b) [z, TI, TO, i1, i2] z (fun i h => IsZip h z TI TO .none ∧ IsTupOf2 h TI (.ref i1) (.ref i2) ∧ (∃ x y, IsTupOf2 h TO x y) ∧ h.IsTupleIter i1 a i ∧ h.IsListIter i2 b i) where
  mem := by simp
  obj := fun i h st c hc => by
    obtain ⟨hz, hTI, ⟨x, y, hTO⟩, ⟨o1, e1, _, d1⟩, ⟨o2, e2, _, d2⟩⟩ := st
    have e' : c = z ∨ c = TI ∨ c = TO ∨ c = i1 ∨ c = i2 := by simpa using hc
    rcases e' with q | q | q | q | q
    · rw [q]; exact ⟨_, hz, fun v q => nomatch q⟩
    · rw [q]; exact ⟨_, hTI, fun v q => nomatch q⟩
    · rw [q]; exact ⟨_, hTO, fun v q => nomatch q⟩
    · rw [q]; exact ⟨o1, e1, fun v q => by rw [d1] at q; cases q⟩
    · rw [q]; exact ⟨o2, e2, fun v q => by rw [d2] at q; cases q⟩
  keep := fun i h h' st k => by
    obtain ⟨hz, hTI, ⟨x, y, hTO⟩, h1, h2⟩ := st
    exact ⟨k z (by simp) _ hz, k TI (by simp) _ hTI, ⟨x, y, k TO (by simp) _ hTO⟩, h1.at fun o q => k i1 (by simp) o q, h2.at fun o q => k i2 (by simp) o q⟩
  item := by
    intro X hP hw hK hc i pins s σ H E I hf st hg
    subst hP hw hK
    obtain ⟨hz, hTI, ⟨x0, y0, hTO⟩, h1, h2⟩ := st
    obtain ⟨xs, ys, x, y, hqx, hqy, hx, hy⟩ := hg
    obtain ⟨its, rv, p, _⟩ := I.tuple hqx
    obtain ⟨its2, rv2, p2, _⟩ := I.list hqy
    obtain ⟨u, hu, ru⟩ := rv.get hx
    obtain ⟨u2, hu2, ru2⟩ := rv2.get hy
    have S := D.sep
    obtain ⟨l1, l2, l3, l4, l5, l6⟩ := D.lt
    have hzl : z < s.heap.objs.size := Heap.lt_size hz
    have D1 := Draws.tuple (prog := X.prog) (w := X.w) (A := X.A.in1) (I.ok.hd hc) i1 a (Nat.ne_of_lt l1) its.toArray
    have D2 := Draws.list (prog := X.prog) (w := X.w) (A := X.A.in1) (I.ok.hd hc) i2 b (Nat.ne_of_lt (Nat.lt_trans l2 l3)) its2.toArray
    have q1 : i < its.toArray.size := by have := (List.getElem?_eq_some_iff.mp hu).1; simpa using this
    have q2 : i < its2.toArray.size := by have := (List.getElem?_eq_some_iff.mp hu2).1; simpa using this
    refine wpAny_pyNext_zipD2_item S D1 D2 hz hTI hTO ⟨h1, show s.heap.IsTuple a its.toArray from p⟩ ⟨h2, p2.isList⟩ q1 q2 fun x1 x2 h' tk px1 px2 z' TO' st1 st2 hT hsz hk => ?_
    have e1 : x1 = u := by have : its.toArray[i]? = some x1 := px1; rw [show its.toArray[i]? = its[i]? by simp, hu] at this; exact (Option.some.inj this).symm
    have e2 : x2 = u2 := by have : its2.toArray[i]? = some x2 := px2; rw [show its2.toArray[i]? = its2[i]? by simp, hu2] at this; exact (Option.some.inj this).symm
    subst e1 e2
    refine ⟨_, rfl, wpAny_letOwnedTupleGo_zip (s := { s with heap := h', toks := tk }) z' fun h'' z'' sb => ?_⟩
    have hT2 : h''.get? s.heap.objs.size = some { cls := .type "tuple", data := .seq #[x1, x2] } := (sb.2 _ (Nat.ne_of_gt hzl)).trans hT
    have new : ObjOk X.prog X.w (upd H s.heap.objs.size (.tup [x, y])) h'' s.heap.objs.size (.tup [x, y]) :=
      ⟨by show 2 ≤ sizeLine; decide, [x1, x2], .cons ru (.cons ru2 .nil), ⟨_, hT2, rfl, _, rfl⟩⟩
    have I1 : Inv X pins σ (upd H s.heap.objs.size (.tup [x, y])) { s with heap := h'', toks := tk } :=
      I.turnedNew (t' := tk) (ch := [z, TI, TO, i1, i2]) (fun c o hb q => (sb.2 c (fun q' => hb (by simp [q']))).trans (hk c o (fun q' => hb (by simp [q'])) (fun q' => hb (by simp [q'])) (fun q' => hb (by simp [q'])) (fun q' => hb (by simp [q'])) q)) hf (Nat.le_refl _) new
    refine ⟨.ref s.heap.objs.size, _, I1, rfl, ⟨_, x, y, rfl, I.hok.fresh (Nat.le_refl _), rfl, fun l hl => by rw [I.tuple_inj hl hqx]; exact hx, fun l hl => by rw [I.list_inj hl hqy]; exact hy⟩, ⟨z'', ?_, ⟨x1, x2, ?_⟩, ?_, ?_⟩, fun c hcm => ?_⟩
    · exact (sb.2 _ S.TIz).trans (hk _ _ S.TIz S.TITO S.TIi1 S.TIi2 hTI)
    · exact (sb.2 _ S.TOz).trans TO'
    · exact st1.1.at fun o q => (sb.2 _ (Nat.ne_of_lt (Nat.lt_trans (Nat.lt_trans l3 l4) (Nat.lt_trans l5 l6)))).trans q
    · exact st2.1.at fun o q => (sb.2 _ (Nat.ne_of_lt (Nat.lt_trans l4 (Nat.lt_trans l5 l6)))).trans q
    · have hlt : c < s.heap.objs.size := by
        have e' : c = z ∨ c = TI ∨ c = TO ∨ c = i1 ∨ c = i2 := by simpa using hcm
        have m4 : TO < s.heap.objs.size := Nat.lt_trans l6 hzl
        have m3 : TI < s.heap.objs.size := Nat.lt_trans l5 m4
        have m2 : i2 < s.heap.objs.size := Nat.lt_trans l4 m3
        rcases e' with q | q | q | q | q <;> rw [q]
        · exact hzl
        · exact m3
        · exact m4
        · exact Nat.lt_trans l3 m2
        · exact m2
      rw [upd_ne (Nat.ne_of_lt hlt)]
      exact (hf c hcm).1
  done := by
    intro X hP hw hK hc i pins s σ H E I hf st hg
    subst hP hw hK
    obtain ⟨hz, hTI, ⟨x0, y0, hTO⟩, h1, h2⟩ := st
    obtain ⟨xs, ys, hqx, hqy, le1, le2, hend⟩ := hg
    obtain ⟨its, rv, p, _⟩ := I.tuple hqx
    obtain ⟨its2, rv2, p2, _⟩ := I.list hqy
    have q1 := rv.length
    have q2 := rv2.length
    have D1 := Draws.tuple (prog := X.prog) (w := X.w) (A := X.A.in1) (I.ok.hd hc) i1 a (Nat.ne_of_lt D.lt.1) its.toArray
    have D2 := Draws.list (prog := X.prog) (w := X.w) (A := X.A.in1) (I.ok.hd hc) i2 b (Nat.ne_of_lt (Nat.lt_trans D.lt.2.1 D.lt.2.2.1)) its2.toArray
    refine wpAny_pyNext_zipD2_end D.sep D1 D2 hz hTI hTO ⟨h1, show s.heap.IsTuple a its.toArray from p⟩ ⟨h2, p2.isList⟩ (by simp; omega) (by simp; omega) (by simp; omega) fun h' tk hk => ⟨rfl, I.turnedL (t' := tk) (ch := [z, TI, TO, i1, i2]) (fun c o hb q =>
      hk c o (fun q' => hb (by simp [q'])) (fun q' => hb (by simp [q'])) (fun q' => hb (by simp [q'])) (fun q' => hb (by simp [q'])) q) hf⟩
  self := fun A i s Q E st h => wpAny_pyIter_zip st.1 h
def iZipM (K : PySem.W.Frag) (ta : TA) : TI := fun σ H R => ta σ H fun vs H1 => ∃ a b xs ys, vs = [.ref a, .ref b] ∧ SqT K H1 a xs ∧ SqL K H1 b ys ∧ R (ItzM K a b) H1
theorem pi_zipM {X : Cx} {e e2 : Expr} {ta : TA} {p pos tpos : Pos} {elts : List Expr} {kk : Nat} (hg : Gl X "zip") (hm : X.mg "zip" = none) (ha : PA X [e, e2] ta)
    (hs : starEach [e, e2] X.env = (false, eval e X.env) :: starEach [e2] X.env := by rfl) (hpl : (backTo pos (starEach [e2] X.env)).any (·.1) = false := by rfl) :
    PI X (.Tuple elts kk tpos) (.Call (.Name "zip" p) [e, e2] [] pos) (iZipM X.K ta) := by
  refine ⟨fun pins s σ H R I h => ?_⟩
  refine Call_ (ld_blt I hg hm PyProof.Rows.boot_zip (PyProof.Rows.callWith_type1 (thn (ha.run pos pins s σ H _ I h) fun us s1 ⟨vs, H1, I1, r1, q1⟩ => ?_) hs hpl))
  obtain ⟨a, b, xs, ys, ex, hqx, hqy, q⟩ := q1
  subst ex
  obtain ⟨u1, u2, rfl, r, r'⟩ := vals2 r1
  cases r
  cases r'
  have fresh5 : ∀ c, c ∈ [s1.heap.objs.size + 4, s1.heap.objs.size + 2, s1.heap.objs.size + 3, s1.heap.objs.size, s1.heap.objs.size + 1] → FpOk X pins H1 c := fun c hcm => by
    have e' : c = s1.heap.objs.size + 4 ∨ c = s1.heap.objs.size + 2 ∨ c = s1.heap.objs.size + 3 ∨ c = s1.heap.objs.size ∨ c = s1.heap.objs.size + 1 := by simpa using hcm
    have hle : s1.heap.objs.size ≤ c := by
      rcases e' with z | z | z | z | z
      · rw [z]; exact Nat.le_add_right _ _
      · rw [z]; exact Nat.le_add_right _ _
      · rw [z]; exact Nat.le_add_right _ _
      · rw [z]; exact Nat.le_refl _
      · rw [z]; exact Nat.le_add_right _ _
    exact I1.fpOk hle (I1.hok.fresh hle)
  obtain ⟨its, rv, p1, _⟩ := I1.tuple hqx
  obtain ⟨its2, rv2, p2, _⟩ := I1.list hqy
  obtain ⟨o1, ho1, _⟩ := id p1
  refine call_zm (show s1.heap.IsTuple a its.toArray from p1) p2.isList fun h' hz hTI hTO h1 h2 hk => wpAny_pyIter_zip hz ?_
  have I2 : Inv X pins σ H1 { s1 with heap := h' } := I1.kept (t' := s1.toks) hk
  exact ⟨s1.heap.objs.size + 4, [s1.heap.objs.size + 4, s1.heap.objs.size + 2, s1.heap.objs.size + 3, s1.heap.objs.size, s1.heap.objs.size + 1], _, _, H1, rfl, I2, turn_zm (zm_ok s1.heap.objs.size a b (Heap.lt_size ho1) p2.lt), ⟨hz, hTI, ⟨_, _, hTO⟩, h1, h2⟩, fresh5, q⟩
end RZ
namespace DL
open PySem PySem.Spec PyProof.Rows L2 RZ
theorem walk_zm {K : PySem.W.Frag} {a b : Addr} {xs ys : List V} {n : Nat} (hn : n = min xs.length ys.length) : Walk (ItzM K a b) n (fun H => SqT K H a xs ∧ SqL K H b ys) (YPair (fun i => xs[i]?) (fun i => ys[i]?)) := by
  subst hn
  refine ⟨fun i _ hi q => ?_, fun _ q => ⟨xs, ys, q.1, q.2, by omega, by omega, by omega⟩, fun i H v H' _ q y => ?_⟩
  · have h1 : i < xs.length := by omega
    have h2 : i < ys.length := by omega
    exact ⟨xs, ys, xs[i], ys[i], q.1, q.2, by simp [h1], by simp [h2]⟩
  · obtain ⟨T, x, z, h1, h2, h3, h4, h5⟩ := y
    exact ⟨T, x, z, h1, h2, h3, h4 xs q.1, h5 ys q.2⟩
theorem src_zm {c : Cf} {K : PySem.W.Frag} {a b : Addr} {xs ys : List D} (r : Rep c (.tup xs) (.ref a)) (r2 : Rep c (.lst ys) (.ref b)) : Src c (ItzM K a b) (zipD xs ys) := by
  obtain ⟨a', vs, e, h, n, r⟩ := r
  cases e
  obtain ⟨b', ws, e, h2, n2, r2⟩ := r2
  cases e
  refine ⟨_, _, walk_zm (xs := vs) (ys := ws) (by rw [zipD_len, repL_len r, repL_len r2]), fun c2 k => ⟨SqT.of (k.at h n), SqL.of (k.at h2 n2)⟩, fun i x H2 c2 d hd k w y => ?_⟩
  obtain ⟨T, p, q, rfl, hT, rfl, e1, e2⟩ := y
  dsimp only at e1 e2
  obtain ⟨x, y, hx, hy, rfl⟩ := zipD_get hd
  obtain ⟨v, hv, rv⟩ := repL_get r hx
  obtain ⟨v2, hv2, rv2⟩ := repL_get r2 hy
  rw [hv] at e1
  rw [hv2] at e2
  cases e1
  cases e2
  exact lay_pair w hT (Rep.monoW k _ _ rv) (Rep.monoW k _ _ rv2)
def itemsZM (x y : D) : M (List D) := match x, y with
  | .lst xs, .lst ys => M.ret (zipD xs ys)
  | .tup xs, .tup ys => M.ret (zipD xs ys)
  | .tup xs, .lst ys => M.ret (zipD xs ys)
  | _, _ => M.fail
/-- zip of two lists, two tuples, a tuple and a list -/
def evZipM (R : Env → M (List RV)) (δ : Env) : M (List D) := (R δ).bind fun us => match us with
  | [u, v] => (toD u).bind fun d => (toD v).bind fun d' => itemsZM d d'
  | _ => M.fail
section
variable {ι : Type} {𝒳 : ι → Cx} {G : Gh} {a b : Expr} {pos : Pos} {R : Env → M (List RV)}
theorem di_zipM {p tpos : Pos} {elts : List Expr} {kk : Nat} (hK : ∀ i, (𝒳 i).K = G.K) (hm : ∀ i, (𝒳 i).mg "zip" = none) (ha : DA 𝒳 G [a, b] R) (hg : ∀ i, Gl (𝒳 i) "zip" := by intro _; rfl)
    (hs : ∀ i, starEach [a, b] (𝒳 i).env = (false, eval a (𝒳 i).env) :: starEach [b] (𝒳 i).env := by intro _; rfl) (hpl : ∀ i, (backTo pos (starEach [b] (𝒳 i).env)).any (·.1) = false := by intro _; rfl) :
    DI 𝒳 G (.Tuple elts kk tpos) (.Call (.Name "zip" p) [a, b] [] pos) (evZipM R) := by
  obtain ⟨t, pt, rt⟩ := ha
  refine ⟨fun σ H R => iZipA G.K t σ H R ∨ iZipM G.K t σ H R, fun i => ?_, fun c σ δ R' s w h => ?_⟩
  · have h1 := pi_zipA (tpos := tpos) (elts := elts) (kk := kk) (p := p) (pos := pos) (hg i) (hm i) (pt i) (hs i) (hpl i)
    have h2 := pi_zipM (tpos := tpos) (elts := elts) (kk := kk) (p := p) (pos := pos) (hg i) (hm i) (pt i) (hs i) (hpl i)
    rw [hK i] at h1 h2
    exact PI.or h1 h2
  rcases args2 rt s w h with h1 | ⟨d, d', W2, h1, go⟩
  · exact .inl (h1 _)
  · cases d <;> (try exact h1.elim) <;> cases d' <;> try exact h1.elim
    case lst.lst xs ys =>
      refine .inl (go _ fun x y c2 hw e2 w2 r2 r3 => ?_)
      have r2' := r2
      have r3' := r3
      obtain ⟨a, vs, rfl, h2, _⟩ := r2'
      obtain ⟨b, ws, rfl, h3, _⟩ := r3'
      exact ⟨a, b, vs, ws, rfl, .inl ⟨SqL.of h2, SqL.of h3, h1 _ c2 hw e2 w2 (src_zip r2 r3)⟩⟩
    case tup.tup xs ys =>
      refine .inl (go _ fun x y c2 hw e2 w2 r2 r3 => ?_)
      have r2' := r2
      have r3' := r3
      obtain ⟨a, vs, rfl, h2, _⟩ := r2'
      obtain ⟨b, ws, rfl, h3, _⟩ := r3'
      exact ⟨a, b, vs, ws, rfl, .inr ⟨SqT.of h2, SqT.of h3, h1 _ c2 hw e2 w2 (src_zipT r2 r3)⟩⟩
    case tup.lst xs ys =>
      refine .inr (go _ fun x y c2 hw e2 w2 r2 r3 => ?_)
      have r2' := r2
      have r3' := r3
      obtain ⟨a, vs, rfl, h2, _⟩ := r2'
      obtain ⟨b, ws, rfl, h3, _⟩ := r3'
      exact ⟨a, b, vs, ws, rfl, SqT.of h2, SqL.of h3, h1 _ c2 hw e2 w2 (src_zm r2 r3)⟩
end
end DL
set_option Elab.async false
set_option linter.all false
set_option maxRecDepth 100000
set_option maxHeartbeats 1000000
/-! DL44: a written dict of ints by ints. -/
namespace L2
open PySem PySem.Spec PyProof.Rows
def intEsB : List DictEntry → List (Int × Int) → Bool
  | [], [] => true
  | e :: es, (k, v) :: r => (e.hash == hashInt k && Value.isInt k e.key && Value.isInt v e.val) && intEsB es r
  | _, _ => false
structure IntD (K : PySem.W.Frag) (d : Addr) (kvs : List (Int × Int)) : Prop where
  ex : ∃ es n, K.lookup d = some ⟨.type "dict", none, .dict es n, #[]⟩ ∧ intEsB es.toList kvs = true
  low : (d == sysModules) = false
theorem intEs_keys : ∀ {es : List DictEntry} {kvs : List (Int × Int)}, intEsB es kvs = true → ∀ e ∈ es, ∃ k : Int, Value.isInt k e.key = true ∧ e.hash = hashInt k
  | [], _, _, e, he => by cases he
  | e0 :: es, [], h, _, _ => by simp [intEsB] at h
  | e0 :: es, (k, v) :: r, h, e, he => by
    simp only [intEsB, Bool.and_eq_true] at h
    rcases List.mem_cons.mp he with rfl | he
    · exact ⟨k, h.1.1.2, by simpa using h.1.1.1⟩
    · exact intEs_keys h.2 e he
theorem intEs_find : ∀ {es : List DictEntry} {kvs : List (Int × Int)} (i : Int), intEsB es kvs = true → RelO ((kvs.lookup i).map V.int) ((es.find? fun d => Value.isInt i d.key).map (·.val))
  | [], [], _, _ => trivial
  | [], _ :: _, _, h => by simp [intEsB] at h
  | e0 :: es, [], _, h => by simp [intEsB] at h
  | e0 :: es, (k, v) :: r, i, h => by
    simp only [intEsB, Bool.and_eq_true] at h
    obtain ⟨t, ek⟩ := Value.isInt_shape h.1.1.2
    obtain ⟨u, ev⟩ := Value.isInt_shape h.1.2
    rw [List.find?_cons, List.lookup_cons]
    by_cases e : i = k
    · subst e
      rw [h.1.1.2, beq_self_eq_true]
      show RelV (.int v) e0.val
      exact ⟨u, ev⟩
    · have h1 : Value.isInt i e0.key = false := by
        cases q : Value.isInt i e0.key with
        | false => rfl
        | true => exact absurd (Value.isInt_inj _ _ _ q h.1.1.2) e
      rw [h1, show (i == k) = false from beq_eq_false_iff_ne.mpr e]
      exact intEs_find i h.2
section
variable {X : Cx} {d : Addr} {kvs : List (Int × Int)}
theorem intD_map {pins : List (Addr × Obj)} {σ : St} {H : Hp} {s : Shared} (D : IntD X.K d kvs) (I : Inv X pins σ H s) : ∃ f, s.heap.MapOf (intKind X.prog X.w) d f ∧ ∀ i, RelO ((kvs.lookup i).map V.int) (f i) := by
  obtain ⟨es, n, hl, he⟩ := D.ex
  refine ⟨fun i => (es.toList.find? fun d => Value.isInt i d.key).map (·.val), ⟨_, es, n, I.kIn _ _ hl, ⟨rfl, rfl, rfl⟩, rfl, fun e hm => intEs_keys he e (Array.mem_toList_iff.mpr hm), fun k => ?_⟩, fun i => intEs_find i he⟩
  obtain ⟨l⟩ := es
  unfold findBy
  simp
  try rfl
def rInKI (d : Addr) (kvs : List (Int × Int)) (neg : Bool) : R2 := fun x y H Q => ∃ i, x = .int i ∧ y = .ref d ∧ Q (.bl ((kvs.lookup i).isSome != neg)) H
theorem relO_some {o : Option Int} {u : Option Value} (h : RelO (o.map V.int) u) : u.isSome = o.isSome := by
  cases o <;> cases u <;> first | rfl | exact h.elim
theorem op_inKI (D : IntD X.K d kvs) : OpR X (compareOp .In) (rInKI d kvs false) := by
  intro pins s σ H x y v u Q I rx ry h
  obtain ⟨i, rfl, rfl, q⟩ := h
  obtain ⟨t, rfl⟩ := rx
  cases ry
  obtain ⟨f, hm, hf⟩ := intD_map D I
  refine wpAny_in_of (knd := intKind X.prog X.w) (k := i) (show Value.isInt i (.int i t) = true by simp [Value.isInt]) D.low hm ⟨.bl (f i).isSome, H, I.tok _, rfl, ?_⟩
  rw [relO_some (hf i)]
  simpa using q
theorem op_notInKI (D : IntD X.K d kvs) : OpR X (compareOp .NotIn) (rInKI d kvs true) := by
  intro pins s σ H x y v u Q I rx ry h
  obtain ⟨i, rfl, rfl, q⟩ := h
  obtain ⟨t, rfl⟩ := rx
  cases ry
  obtain ⟨f, hm, hf⟩ := intD_map D I
  refine wpAny_notIn_of (knd := intKind X.prog X.w) (k := i) (show Value.isInt i (.int i t) = true by simp [Value.isInt]) D.low hm ⟨.bl (!(f i).isSome), H, I.tok _, rfl, ?_⟩
  rw [relO_some (hf i)]
  simpa using q
def rIxKI (d : Addr) (kvs : List (Int × Int)) : R2 := fun x y H Q => ∃ i v, x = .ref d ∧ y = .int i ∧ kvs.lookup i = some v ∧ Q (.int v) H
theorem ix_KI (D : IntD X.K d kvs) : IxR X (rIxKI d kvs) := by
  intro value slice pins s σ H x y v u Q I rx ry h hs
  obtain ⟨i, r, rfl, rfl, hl, q⟩ := h
  obtain rfl : v = Value.ref d := rx
  obtain ⟨t, rfl⟩ := ry
  obtain ⟨f, hm, hf⟩ := intD_map D I
  have := hf i
  rw [hl] at this
  cases e : f i with
  | none => rw [e] at this; exact this.elim
  | some u =>
    rw [e] at this
    exact tail_any hm.typeIs slot_dict_getitem.lookup (wpAny_getItem_of (knd := intKind X.prog X.w) (k := i) (show Value.isInt i (.int i t) = true by simp [Value.isInt]) hm e ⟨.int r, H, I.tok _, this, q⟩) hs
end
end L2
namespace DL
open PySem PySem.Spec PyProof.Rows L2
def evInKI (kvs : List (Int × Int)) (neg : Bool) (Fe : Env → M RV) (δ : Env) : M RV := (Fe δ).bind fun u => (asI u).bind fun i => M.ret (.d (.bl ((kvs.lookup i).isSome != neg)))
def evIxKI (kvs : List (Int × Int)) (Fe : Env → M RV) (δ : Env) : M RV := (Fe δ).bind fun u => (asI u).bind fun i => M.opt ((kvs.lookup i).map fun v => RV.d (.int v))
section
variable {ι : Type} {𝒳 : ι → Cx} {G : Gh} {e : Expr} {y : Str} {d : Addr} {kvs : List (Int × Int)} {Fe : Env → M RV} {py pos : Pos}
theorem rd_inKI {t : TE} {neg : Bool} (rt : RdE G t Fe) : RdE G (tOp (rInKI d kvs neg) t (tC (.ref d))) (evInKI kvs neg Fe) := by
  intro c σ δ Q s w h
  refine rt c σ δ _ s w (wpM_mono (wpM_bind.mp h) (fun u W1 h1 x c1 hw e1 w1 r1 => ?_) fun _ _ q => q)
  subst hw
  obtain ⟨i, rfl, q⟩ := asI_ok (wpM_bind.mp h1)
  exact ⟨i, r1, rfl, q _ c1 rfl e1 w1 rfl⟩
theorem de_inKI (neg : Bool) (D : IntD G.K d kvs) (hm : ∀ i, (𝒳 i).mg y = some (.ref d)) (hK : ∀ i, (𝒳 i).K = G.K) (h : DE 𝒳 G e Fe) (hg : ∀ i, Gl (𝒳 i) y := by intro _; rfl) (hdb : (y == ("__debug__" : Str)) = false := by decide) :
    DE 𝒳 G (.Compare e [if neg then .NotIn else .In] [.Name y py] pos) (evInKI kvs neg Fe) := by
  obtain ⟨t, p, r⟩ := h
  refine ⟨_, fun i => ?_, rd_inKI (d := d) r⟩
  have hg2 : PE (𝒳 i) (.Name y py) (tC (.ref d)) := pe_glob (hg i) (hm i) rfl hdb
  cases neg with
  | false => exact pe_cmpR (op_inKI (by rw [hK i]; exact D)) (p i) hg2 rfl
  | true => exact pe_cmpR (op_notInKI (by rw [hK i]; exact D)) (p i) hg2 rfl
theorem dt_inKI (neg : Bool) (D : IntD G.K d kvs) (hm : ∀ i, (𝒳 i).mg y = some (.ref d)) (hK : ∀ i, (𝒳 i).K = G.K) (h : DE 𝒳 G e Fe) (hg : ∀ i, Gl (𝒳 i) y := by intro _; rfl) (hdb : (y == ("__debug__" : Str)) = false := by decide) :
    DT 𝒳 G (.Compare e [if neg then .NotIn else .In] [.Name y py] pos) (evB (evInKI kvs neg Fe)) := by
  obtain ⟨t, p, r⟩ := h
  refine ⟨_, fun i => ?_, (rd_inKI (d := d) (neg := neg) r).test⟩
  have hg2 : PE (𝒳 i) (.Name y py) (tC (.ref d)) := pe_glob (hg i) (hm i) rfl hdb
  cases neg with
  | false => exact pt_cmpR (op_inKI (by rw [hK i]; exact D)) (p i) hg2 rfl
  | true => exact pt_cmpR (op_notInKI (by rw [hK i]; exact D)) (p i) hg2 rfl
theorem de_ixKI (D : IntD G.K d kvs) (hm : ∀ i, (𝒳 i).mg y = some (.ref d)) (hK : ∀ i, (𝒳 i).K = G.K) (h : DE 𝒳 G e Fe) (hs : PlainIx e := by intro _ _; rfl) (hg : ∀ i, Gl (𝒳 i) y := by intro _; rfl) (hdb : (y == ("__debug__" : Str)) = false := by decide) :
    DE 𝒳 G (.Subscript (.Name y py) e pos) (evIxKI kvs Fe) := by
  obtain ⟨t, p, r⟩ := h
  refine ⟨tOp (rIxKI d kvs) (tC (.ref d)) t, fun i => ?_, fun c σ δ Q s w h => ?_⟩
  · exact pe_ix (ix_KI (by rw [hK i]; exact D)) (pe_glob (hg i) (hm i) rfl hdb) (p i) hs
  · refine r c σ δ _ s w (wpM_mono (wpM_bind.mp h) (fun u W1 h1 x c1 hw e1 w1 r1 => ?_) fun _ _ q => q)
    subst hw
    obtain ⟨i, rfl, q⟩ := asI_ok (wpM_bind.mp h1)
    obtain ⟨rv, hr, q⟩ := wpM_opt q
    obtain ⟨v, hv, rfl⟩ := Option.map_eq_some_iff.mp hr
    exact ⟨i, v, rfl, r1, hv, q _ c1 rfl e1 w1 rfl⟩
end
end DL
set_option Elab.async false
set_option linter.all false
set_option maxRecDepth 100000
set_option maxHeartbeats 1000000
/-! B13: facts of classes; raise; words for printed texts. -/
namespace DL
open PySem PySem.Spec PyProof.Rows L2 L2H HotX
theorem pass0N {X : Cx} : Passes (L2N.CX X.prog X.w) X (fun _ _ _ => False) := fun pins σ H s e s' I c => by
  obtain ⟨_, _, _, _, _, _, _, _, _, _, _, _, z⟩ := c
  exact z.elim
/-- what the def that names exceptions asks of a class, x its name, L the names that are asked for -/
structure NamF (K : PySem.W.Frag) (mg : Str → Option Value) (C : Addr) (x : Str) (L : List Str) : Prop where
  ex : ExcX K C
  no : ∀ f ∈ ([("thing" : Str), "many", "index"] : List Str), PySem.W.findIn K (.ref C) f = some none
  is : ∀ y ∈ L, ∃ C' : Addr, mg y = some (.ref C') ∧ PySem.W.kitOne K (.ref C) (.ref C') = some (x == y)
def clsB (s : Stmt) : List Stmt := match s with
  | .ClassDef _ _ _ b _ _ _ _ _ _ _ => b
  | _ => []
/-- C.__init__ keeps its argument in f -/
theorem raiD_of {P : Program} {w : World} {K : PySem.W.Frag} {mg : Str → Option Value} {base : Heap} {x f q y : Str} {C fI : Addr} {st : Stmt} {oc kV doc pm cdv ct : Value} {od an : Option Addr} {osl : Array (Option Value)} {p1 p2 p3 p4 : Pos} (oex : OexC K C) (hm : mg x = some (.ref C)) (iC : PySem.W.findIn K (.ref C) "__init__" = some (some (.ref fI))) (tI : PySem.W.typeIn K (.ref fI) = some (.type "function"))
    (lI : K.lookup fI = some ⟨oc, od, .func (PySem.W.fnOf "__init__" q (defArgs st) (defBody st) (defScope st) .none kV doc pm an cdv ct), osl⟩) (cI : PySem.W.codeIn K cdv q = true) (S : FnScope [("self" : Str), y] [("self" : Str), y] (defScope st)) (hb : defBody st = [.Assign [.Attribute (.Name "self" p1) f p2] (.Name y p3) p4])
    (l0 : (defScope st).names.lookup ("self" : Str) = some NameKind.local) (l1 : (defScope st).names.lookup y = some NameKind.local) (hy : (y == ("__debug__" : Str)) = false) (hy2 : (y == ("__classdict__" : Str)) = false) (hno : PySem.W.findIn K (.ref C) f = some none)
    (bind : ∀ us : List Value, us.length = 2 → bindArgs (PySem.W.fnOf "__init__" q (defArgs st) (defBody st) (defScope st) .none kV doc pm an cdv ct) ⟨us, []⟩ = pure ([("self" : Str), y].zip us)) : RaiD P w K mg base 1 x C f := by
  refine ⟨oex, ⟨fI, _, [("self" : Str), y], fn_of lI cI S (fun vs H Q E h => ?_) (fun A outer s H vs Q E hr h => ?_), iC, tI, .all bind⟩, hm⟩
  · obtain ⟨a, v, rfl, _⟩ := h
    rfl
  · obtain ⟨a, v, rfl, ha, q⟩ := h
    rw [hb]
    exact ⟨_, pss_one (ps_ost (pe_var (i := 0) rfl (.inl l0)) (pe_var (i := 1) rfl (.inl l1) hy hy2)), ⟨v, rfl, .ref a, rfl, a, C, rfl, oex, hno, .inl ⟨ha, fun dx n ne => q dx n ne⟩⟩⟩
/-- how exceptions are named: class, field, word -/
def nmT (tab : List (Str × Str × Str)) (e : DX) : M RV := M.opt (match tab.lookup e.cls, e.fs with
  | some (f, w), [(g, x)] => if g = f then some (.d (.tup [.str w, x])) else none
  | _, _ => none)
/-- the text of a lambda -/
def lamOf (ix : Nat) (e : Expr) (q : Str) : LamI := match e with
  | .Lambda p b s _ => ⟨ix, p, b, s, q ++ "<lambda>"⟩
  | _ => ⟨ix, { posonlyargs := [], args := [], vararg := none, kwonlyargs := [], kw_defaults := [], kwarg := none, defaults := [] }, e, { kind := .function, names := [], isGenerator := false, isCoroutine := false }, q⟩
def subE : Expr → Nat → Expr
  | .List es _, i => es.getD i (.List [] ⟨0, 0, 0, 0⟩)
  | .Tuple es _ _, i => es.getD i (.List [] ⟨0, 0, 0, 0⟩)
  | .Call _ es _ _, i => es.getD i (.List [] ⟨0, 0, 0, 0⟩)
  | e, _ => e
def valS : Stmt → Expr
  | .Assign _ v _ => v
  | .Expr v _ => v
  | _ => .List [] ⟨0, 0, 0, 0⟩
def subS : Stmt → Nat → Stmt
  | .For _ _ b _ _, i => b.getD i (.Pass ⟨0, 0, 0, 0⟩)
  | s, _ => s
theorem room_un {k : Nat} {A : Around} (hr : Room k A) : A.units + 65 < cLine := by
  have := hr.un
  omega
/-- isinstance(e, y), y one of the classes that are asked for -/
theorem de_isN {ι : Type} {𝒳 : ι → Cx} {G : Gh} {e : Expr} {x y : Str} {C a dd : Addr} {Fe : Env → M RV} {p py pos : Pos} {mg : Str → Option Value} {L : List Str} (hX : ∀ i, HasX (𝒳 i) x C a dd) (nam : NamF G.K mg C x L) (hm : ∀ i, (𝒳 i).mg "isinstance" = none) (hmg : ∀ i, (𝒳 i).mg = mg) (hK : ∀ i, (𝒳 i).K = G.K) (h : DE 𝒳 G e Fe) (hy : y ∈ L := by decide)
    (hg : ∀ i, Gl (𝒳 i) "isinstance" := by intro _; rfl) (hgC : ∀ i, Gl (𝒳 i) y := by intro _; rfl) (hdb : (y == ("__debug__" : Str)) = false := by decide)
    (he : ∀ i, starEach [e, .Name y py] (𝒳 i).env = (false, eval e (𝒳 i).env) :: starEach [.Name y py] (𝒳 i).env := by intro _; rfl) (he2 : ∀ i, starEach [.Name y py] (𝒳 i).env = (false, eval (.Name y py) (𝒳 i).env) :: starEach [] (𝒳 i).env := by intro _; rfl) (hpl : ∀ i, (backTo pos (starEach [.Name y py] (𝒳 i).env)).any (·.1) = false := by intro _; rfl) :
    DE 𝒳 G (.Call (.Name "isinstance" p) [e, .Name y py] [] pos) (evIsX x C a dd y Fe) := by
  obtain ⟨C', h1, h2⟩ := nam.is y hy
  exact de_isX hX nam.ex hm (fun i => by rw [hmg i]; exact h1) h2 hK h hg hgC hdb he he2 hpl
end DL
set_option Elab.async false
set_option linter.all false
set_option maxRecDepth 100000
/-! printed by gen.py: readings of the defs that all laws share -/
namespace SH
open PySem PySem.Spec PyProof.Rows L2 RZ DL
noncomputable section
def p__law_bnamed_e1 (y : Str) (C a dd : Addr) (δ : DL.Env) : M RV :=
  (evVar 5) δ
def p__law_bnamed_q2 (y : Str) (C a dd : Addr) (δ : DL.Env) : M Bool :=
  (evB (evVar 4)) δ
def p__law_bnamed_e3 (y : Str) (C a dd : Addr) (δ : DL.Env) : M RV :=
  (evVar 5) δ
def p__law_bnamed_q4 (y : Str) (C a dd : Addr) (δ : DL.Env) : M Bool :=
  (evB (evVar 4)) δ
def m__law_bnamed (y : Str) (C a dd : Addr) (δ : DL.Env) : M (Fl × DL.Env) :=
  (evSeq (evAsg (evLst false (evCons (evTup (evCons (evIsX y C a dd "BadCore" (evVar 0)) (evCons (cS "core") evNil))) (evCons (evTup (evCons (evIsX y C a dd "BadInput" (evVar 0)) (evCons (cS "input") evNil))) (evCons (evTup (evCons (evIsX y C a dd "BadSigns" (evVar 0)) (evCons (cS "signs") evNil))) evNil)))) (gtName 1))
    (evSeq (evAsg (ev2 (opAdd false) (evVar 1) (evLst false (evCons (evTup (evCons (evIsX y C a dd "BadMany" (evVar 0)) (evCons (cS "many") evNil))) (evCons (evTup (evCons (evIsX y C a dd "BadLevels" (evVar 0)) (evCons (cS "levels") evNil))) (evCons (evTup (evCons (evIsX y C a dd "BadSteps" (evVar 0)) (evCons (cS "steps") evNil))) evNil))))) (gtName 1))
    (evSeq (evAsg (ev2 (opAdd false) (evVar 1) (evLst false (evCons (evTup (evCons (evIsX y C a dd "BadOpens" (evVar 0)) (evCons (cS "opens") evNil))) (evCons (evTup (evCons (evIsX y C a dd "BadCloses" (evVar 0)) (evCons (cS "closes") evNil))) (evCons (evTup (evCons (evIsX y C a dd "BadEnds" (evVar 0)) (evCons (cS "ends") evNil))) evNil))))) (gtName 1))
    (evSeq (evAsg (ev2 (opAdd false) (evVar 1) (evLst false (evCons (evTup (evCons (evIsX y C a dd "BadLength" (evVar 0)) (evCons (cS "length") evNil))) (evCons (evTup (evCons (evIsX y C a dd "BadEquation" (evVar 0)) (evCons (cS "equation") evNil))) (evCons (evTup (evCons (evIsX y C a dd "BadLevel" (evVar 0)) (evCons (cS "level") evNil))) evNil))))) (gtName 1))
    (evSeq (evAsg (ev2 (opAdd false) (evVar 1) (evLst false (evCons (evTup (evCons (evIsX y C a dd "BadRegisters" (evVar 0)) (evCons (cS "registers") evNil))) (evCons (evTup (evCons (evIsX y C a dd "BadKey" (evVar 0)) (evCons (cS "key") evNil))) (evCons (evTup (evCons (evIsX y C a dd "BadRow" (evVar 0)) (evCons (cS "row") evNil))) evNil))))) (gtName 1))
    (evSeq (evAsg (ev2 (opAdd false) (evVar 1) (evLst false (evCons (evTup (evCons (evIsX y C a dd "BadInner" (evVar 0)) (evCons (cS "inner") evNil))) (evCons (evTup (evCons (evIsX y C a dd "BadBy" (evVar 0)) (evCons (cS "by") evNil))) (evCons (evTup (evCons (evIsX y C a dd "BadSpace" (evVar 0)) (evCons (cS "space") evNil))) evNil))))) (gtName 1))
    (evSeq (evAsg (ev2 (opAdd false) (evVar 1) (evLst false (evCons (evTup (evCons (evIsX y C a dd "BadSecond" (evVar 0)) (evCons (cS "second") evNil))) (evCons (evTup (evCons (evIsX y C a dd "BadSize" (evVar 0)) (evCons (cS "size") evNil))) (evCons (evTup (evCons (evIsX y C a dd "BadPlace" (evVar 0)) (evCons (cS "place") evNil))) evNil))))) (gtName 1))
    (evSeq (evAsg (evLc false [4, 5] (evIterB (evVar 1)) (gtTupB 2 (gtCons (gtName 4) (gtCons (gtName 5) gtNil))) (p__law_bnamed_q4 y C a dd) (p__law_bnamed_e3 y C a dd)) (gtName 2))
    (evSeq (evAsg (evLst false (evCons (evTup (evCons (evIsX y C a dd "BadRows" (evVar 0)) (evCons (cS "rows") evNil))) (evCons (evTup (evCons (evIsX y C a dd "TooMany" (evVar 0)) (evCons (cS "too many") evNil))) evNil))) (gtName 3))
    (evSeq (evAsg (ev2 (opAdd false) (evVar 2) (evLc false [4, 5] (evIterB (evVar 3)) (gtTupB 2 (gtCons (gtName 4) (gtCons (gtName 5) gtNil))) (p__law_bnamed_q2 y C a dd) (p__law_bnamed_e1 y C a dd))) (gtName 2))
    (evSeq (evIfS (evB (ev2 (opEq true) (evCall bLen (evCons (evVar 2) evNil)) (cI 1))) (evRet (evTup (evCons (cS "unlike") (evCons (evVar 2) evNil)))) evNext)
    (evSeq (evIfS (evB (ev2 (opEq false) (ev2 opIx (evVar 2) (cI 0)) (cS "rows"))) (evRet (evTup (evCons (cS "rows") (evCons (evFldX y C a dd "index" (evVar 0)) evNil)))) evNext)
    (evRet (evIf (evB (ev2 (opEq false) (ev2 opIx (evVar 2) (cI 0)) (cS "too many"))) (evTup (evCons (cS "too many") (evCons (evFldX y C a dd "many" (evVar 0)) evNil))) (evTup (evCons (ev2 opIx (evVar 2) (cI 0)) (evCons (evFldX y C a dd "thing" (evVar 0)) evNil))))))))))))))))) δ
@[irreducible] def f__law_bnamed (y : Str) (C a dd : Addr) : List RV → M RV := fnD 6 (m__law_bnamed y C a dd)
def m__law_brefuses (δ : DL.Env) : M (Fl × DL.Env) :=
  (evRet (evAnd (ev2 (opIs true) (evVar 3) cN) (evAnd (ev2 (opEq false) (ev2 opIx (evVar 3) (cI 0)) (evVar 0)) (evCallF 2 (f__law_same 6) (evCons (ev2 opIx (evVar 3) (cI 1)) (evCons (evVar 1) evNil)))))) δ
def p__law_spoilt_b1 (rec : List RV → M RV) (δ : DL.Env) : M (Fl × DL.Env) :=
  (evDrop (evCallF 1 rec (evCons (evVar 2) evNil))) δ
def p__law_spoilt_b2 (rec : List RV → M RV) (δ : DL.Env) : M (Fl × DL.Env) :=
  (evDrop (evCallF 1 rec (evCons (ev2 opIx (evVar 0) (evVar 1)) evNil))) δ
def m__law_spoilt (rec : List RV → M RV) (δ : DL.Env) : M (Fl × DL.Env) :=
  (evSeq (evIfS (evB (evCall bIsi (evCons (evVar 0) (evCons (cT .dct) evNil)))) (evSeq (evFor (evIter (evCall (bList false) (evCons (evVar 0) evNil))) (gtName 1) (p__law_spoilt_b2 rec))
    (evAsg (ev2 (opAdd false) evNever (cI 1)) (gtSub (evVar 0) (cS "LATE")))) evNext)
    (evSeq (evIfS (evB (evCall bIsi (evCons (evVar 0) (evCons (evTup (evCons (cT .lst) (evCons (cT .tup) evNil))) evNil)))) (evForQ (evWk (evVar 0)) (gtName 2) (p__law_spoilt_b1 rec)) evNext)
    (evIfS (evB (evCall bIsi (evCons (evVar 0) (evCons (cT .lst) evNil)))) (evDrop (evMth mAppend (evVar 0) (evCons (cS "LATE") evNil))) evNext))) δ
@[irreducible] def f__law_spoilt (n : Nat) : List RV → M RV := Nat.rec (fun _ => M.fail) (fun _ r => fnD 3 (m__law_spoilt r)) n
theorem f__law_spoilt_0 : f__law_spoilt 0 = fun _ => M.fail := by unfold f__law_spoilt; rfl
theorem f__law_spoilt_s (n : Nat) : f__law_spoilt (n + 1) = fnD 3 (m__law_spoilt (f__law_spoilt n)) := by unfold f__law_spoilt; rfl
def p__law_is_once_e1 (rec : List RV → M RV) (δ : DL.Env) : M RV :=
  (evCallF 1 rec (evCons (evVar 3) evNil)) δ
def p__law_is_once_e2 (rec : List RV → M RV) (δ : DL.Env) : M RV :=
  (evCallF 1 rec (evCons (ev2 opIx (evVar 0) (evVar 2)) evNil)) δ
def p__law_is_once_q3 (rec : List RV → M RV) (δ : DL.Env) : M Bool :=
  (evB (ev2 (opEq true) (evVar 2) (cS "LATE"))) δ
def m__law_is_once (rec : List RV → M RV) (δ : DL.Env) : M (Fl × DL.Env) :=
  (evSeq (evIfS (evB (evCall bIsi (evCons (evVar 0) (evCons (cT .dct) evNil)))) (evRet (evAnd (ev2 (opEq false) (ev2 opIx (evVar 0) (cS "LATE")) (cI 1)) (evCall bAll (evCons (evLc false [2] (evIter (evVar 0)) (gtName 2) (p__law_is_once_q3 rec) (p__law_is_once_e2 rec)) evNil)))) evNext)
    (evSeq (evIfS (evB (evCall bIsi (evCons (evVar 0) (evCons (evTup (evCons (cT .lst) (evCons (cT .tup) evNil))) evNil)))) (evSeq (evAsg (evCall bInt (evCons (evCall bIsi (evCons (evVar 0) (evCons (cT .lst) evNil))) evNil)) (gtName 1))
    (evRet (evAnd (ev2 (opEq false) (evMth mCountL (evCall (bList false) (evCons (evVar 0) evNil)) (evCons (cS "LATE") evNil)) (evVar 1)) (evCall bAll (evCons (evLc false [3] (evIter (evVar 0)) (gtName 3) evYes (p__law_is_once_e1 rec)) evNil))))) evNext)
    (evRet (cB true)))) δ
@[irreducible] def f__law_is_once (n : Nat) : List RV → M RV := Nat.rec (fun _ => M.fail) (fun _ r => fnD 4 (m__law_is_once r)) n
theorem f__law_is_once_0 : f__law_is_once 0 = fun _ => M.fail := by unfold f__law_is_once; rfl
theorem f__law_is_once_s (n : Nat) : f__law_is_once (n + 1) = fnD 4 (m__law_is_once (f__law_is_once n)) := by unfold f__law_is_once; rfl
def m__law_apart (δ : DL.Env) : M (Fl × DL.Env) :=
  (evSeq (evDrop (evCallF 1 (f__law_spoilt 6) (evCons (evVar 0) evNil)))
    (evRet (evCallF 1 (f__law_is_once 6) (evCons (evDeep 8 (evVar 0)) evNil)))) δ
@[irreducible] def f__law_apart : List RV → M RV := fnD 1 m__law_apart
def p__law_mixed_e1 (δ : DL.Env) : M RV :=
  (evMth mPop (evVar 2) (evCons (evCallF 2 f__law_below (evCons (evVar 0) (evCons (evCall bLen (evCons (evVar 2) evNil)) evNil))) evNil)) δ
def m__law_mixed (δ : DL.Env) : M (Fl × DL.Env) :=
  (evSeq (evAsg (evCall (bList true) (evCons (evVar 1) evNil)) (gtName 2))
    (evRet (evLc false [3] (evRange1 (evCons (evCall bLen (evCons (evVar 2) evNil)) evNil)) (gtName 3) evYes p__law_mixed_e1))) δ
@[irreducible] def f__law_mixed : List RV → M RV := fnD 4 m__law_mixed
end
end SH

set_option Elab.async false
set_option linter.all false
set_option maxRecDepth 100000
set_option maxHeartbeats 4000000
set_option exponentiation.threshold 2000
/-! SM: what the shared defs of the laws do: the stream. -/
namespace SH
open PySem PySem.Spec PyProof.Rows L2 RZ DL
theorem log2_lt {n k : Nat} (h : n < 2 ^ k) (hk : 0 < k) : n.log2 < k := by
  by_cases e : n = 0
  · subst e; simpa using hk
  · exact (Nat.log2_lt e).mpr h
theorem cmulw {i j : Int} (h1 : i.natAbs < 2 ^ 1000) (h2 : j.natAbs < 2 ^ 1000) : CMulW i j := by
  have a := log2_lt h1 (by decide)
  have b := log2_lt h2 (by decide)
  unfold CMulW; omega
theorem cdivw {i j : Int} (h1 : 0 < j) (h2 : j.natAbs < 2 ^ 1000) : CDivG i j := ⟨by omega, by have := log2_lt h2 (by decide); omega⟩
theorem abs_lt {i : Int} {k : Nat} (h0 : 0 ≤ i) (h : i < 2 ^ k) : i.natAbs < 2 ^ k := by
  have : ((i.natAbs : Nat) : Int) = i := Int.natAbs_of_nonneg h0
  have h2 : ((i.natAbs : Nat) : Int) < ((2 ^ k : Nat) : Int) := by rw [this]; push_cast; exact h
  exact_mod_cast h2
/-- the stream -/
structure Strm where
  ns : List Int
  r : Int
  k : Int
  m : Int
def Strm.W (s : Strm) (J : Wd) : Wd := .lst (intL s.ns) :: .lst [.r 0, .d (.int s.r), .d (.int s.k), .d (.int s.m)] :: J
structure Strm.ok (s : Strm) (N : Nat) : Prop where
  len : s.ns.length ≤ 63
  r0 : 0 ≤ s.r
  k0 : 0 ≤ s.k
  kN : s.k ≤ N
  m0 : 0 ≤ s.m
  m1 : s.m < 2147483647
theorem Strm.ok.mono {s : Strm} {N M : Nat} (h : s.ok N) (l : N ≤ M) : s.ok M := ⟨h.len, h.r0, h.k0, by have := h.kN; omega, h.m0, h.m1⟩
@[simp] theorem Strm.len {s : Strm} {J : Wd} : (s.W J).length = J.length + 2 := by unfold Strm.W; simp
@[simp] theorem gc_strm {s s' : Strm} {J X : Wd} : gcW (s.W J) (s'.W (J ++ X)) = s'.W J := by
  refine gcW_of (X := X) rfl (by simp) fun l o hl h => ?_
  have h0 : 1 < (s.W J).length := by simp
  match l, h with
  | 0, h =>
    right
    unfold Strm.W at h
    simp at h
    subst h
    show (intL s'.ns).all _ = true
    unfold intL
    rw [List.all_map, List.all_eq_true]
    intro x _
    rfl
  | 1, h =>
    right
    unfold Strm.W at h
    simp at h
    subst h
    simp [MO.below, RV.below]
  | l + 2, h =>
    left
    unfold Strm.W at h ⊢
    simpa using h
@[simp] theorem gc_strm0 {s s' : Strm} {J : Wd} : gcW (s.W J) (s'.W J) = s'.W J := by have := gc_strm (s := s) (s' := s') (J := J) (X := []); rwa [List.append_nil] at this
@[simp] theorem intL_nil : intL [] = [] := (rfl)
@[simp] theorem intL_cons {c : Int} {ns : List Int} : intL (c :: ns) = .d (.int c) :: intL ns := (rfl)
@[simp] theorem popK_0 {l : Nat} {y : RV} {xs : List RV} {Q : RV → Wd → Prop} {W : Wd} : popK 0 (some (l, y :: xs)) Q W = Q y (W.set l (.lst xs)) := popK_at (k := 0) (by decide) rfl rfl (by decide)
theorem pureL_intL : ∀ ns : List Int, pureL (intL ns) = some (ns.map D.int)
  | [] => rfl
  | c :: ns => by
    show (pureL (intL ns)).map (D.int c :: ·) = _
    rw [pureL_intL]; rfl
theorem toPyL_ints : ∀ ns : List Int, toPy.toPyL (ns.map D.int) = some (ns.map PyData.int)
  | [] => rfl
  | c :: ns => by
    show (match toPy (D.int c), toPy.toPyL (ns.map D.int) with | some a, some b => some (a :: b) | _, _ => none) = _
    rw [toPyL_ints]; rfl
theorem eqD_nil {W : Wd} {l : Nat} {E : DX → Wd → Prop} {Q : RV → Wd → Prop} {ns : List Int} (h : W[l]? = some (.lst (intL ns))) : wpM (opEq true (.r l) (.d (.lst []))) W Q E = Q (.d (.bl (!ns.isEmpty))) W := by
  show wpM ((M.look _).bind _) W Q E = _
  rw [w_bind, w_look]
  have e : eqvD W (.r l) (.d (.lst [])) = some (ns.isEmpty) := by
    unfold eqvD
    have h1 : peek W (.r l) = some (.lst (ns.map D.int)) := by
      unfold peek
      simp only [h]
      rw [pureL_intL]; rfl
    have h2 : toPy (.lst (ns.map D.int)) = some (.list (ns.map PyData.int)) := by
      show (toPy.toPyL _).map _ = _
      rw [toPyL_ints]; rfl
    rw [h1]
    show ((toPy _).bind _) = _
    rw [h2]
    cases ns with
    | nil => rfl
    | cons c r =>
      show (if SeqAt.shaped (.list ((c :: r).map PyData.int)) = true ∧ _ then some (PyData.eqv (.list ((c :: r).map PyData.int)) (.list [])) else none) = _
      rw [if_pos ⟨PySem.W.ke_shaped_ints (c :: r), rfl⟩]
      rfl
  rw [e]
  show Q (.d (.bl (ns.isEmpty != true))) W = _
  cases ns <;> rfl
theorem while_below {many : RV} {J : Wd} : ∀ (n : Nat) (s : Strm) (x : Option RV) (N : Nat), s.ok N → s.ns.length < n →
    wpM (evWhile p__law_below_t1 p__law_below_b2 n [some (.r 1), some many, x, none, none]) (s.W J)
      (fun p W' => ∃ (x' : Option RV) (s' : Strm), p = (.nx, [some (.r 1), some many, x', none, none]) ∧ W' = s'.W J ∧ s'.ok N) (fun _ _ => False)
  | 0, _, _, _, _, h => absurd h (Nat.not_lt_zero _)
  | n + 1, s, x, N, ok, hn => by
    have ih := fun s x => while_below (many := many) (J := J) n s x N
    generalize hQ : (fun (p : Fl × DL.Env) (W' : Wd) => ∃ (x' : Option RV) (s' : Strm), p = (.nx, [some (.r 1), some many, x', none, none]) ∧ W' = s'.W J ∧ s'.ok N) = Q0 at ih ⊢
    rw [w_while]
    obtain ⟨ns, r, k, m⟩ := s
    unfold Strm.W
    have hx := ok.m0
    have hy := ok.m1
    dsimp only at hx hy
    simp [p__law_below_t1]
    by_cases hr : r = 0
    · subst hr
      simp
      rw [eqD_nil (ns := ns) rfl]
      cases ns with
      | nil =>
        simp
        rw [← hQ]
        exact ⟨x, ⟨[], 0, k, m⟩, rfl, rfl, ok⟩
      | cons c ns =>
        have hl := ok.len
        dsimp only at hl hn
        rw [List.length_cons] at hl hn
        simp [p__law_below_b2]
        refine ⟨cmulw (abs_lt hx (by omega)) (by decide), ⟨by decide, by decide, by decide⟩, ?_⟩
        by_cases hc : 1000000000000000000 ≤ c
        · simp [hc]
          exact ih ⟨ns, c, k, (m * 69031 + c + 13) % 2147483647⟩ _ ⟨by dsimp only; omega, by dsimp only; omega, ok.k0, ok.kN, by dsimp only; omega, by dsimp only; omega⟩ (by dsimp only; omega)
        · simp [hc]
          exact ih ⟨ns, 0, k, (m * 69031 + c + 13) % 2147483647⟩ _ ⟨by dsimp only; omega, by dsimp only; omega, ok.k0, ok.kN, by dsimp only; omega, by dsimp only; omega⟩ (by dsimp only; omega)
    · simp [hr]
      rw [← hQ]
      exact ⟨x, ⟨ns, r, k, m⟩, rfl, rfl, ok⟩
/-- _law_below -/
theorem below {E : DX → Wd → Prop} {J : Wd} {s : Strm} {N : Nat} {n : Int} (ok : s.ok N) (hN : N < 2 ^ 40) (h0 : 0 < n) (h1 : n < 2 ^ 200) (Q : RV → Wd → Prop)
    (h : ∀ (i : Int) (s' : Strm), 0 ≤ i → i < n → s'.ok (N + 1) → Q (.d (.int i)) (s'.W J)) : wpM (f__law_below [.r 1, .d (.int n)]) (s.W J) Q E := by
  unfold f__law_below
  rw [w_fnD]
  obtain ⟨ns, r, k, m⟩ := s
  unfold Strm.W
  have l := ok.len
  have a1 := ok.r0
  have a2 := ok.k0
  have a3 := ok.kN
  have a4 := ok.m0
  have a5 := ok.m1
  dsimp only at l a1 a2 a3 a4 a5
  simp [m__law_below, startD]
  have wh := while_below (many := .d (.int n)) (J := J) 100 ⟨ns, r, k + 1, m⟩ none (N + 1) ⟨l, a1, by dsimp only; omega, by dsimp only; push_cast; omega, a4, a5⟩ (by dsimp only; omega)
  refine wpM_mono wh (fun p W' hp => ?_) fun _ _ z => z.elim
  obtain ⟨x', ⟨ns', r', k', m'⟩, rfl, rfl, ok'⟩ := hp
  have b0 := ok'.len
  have b1 := ok'.r0
  have b2 := ok'.k0
  have b3 := ok'.kN
  have b4 := ok'.m0
  have b5 := ok'.m1
  dsimp only at b0 b1 b2 b3 b4 b5
  push_cast at b3
  have hn : CDivG r' n := cdivw h0 (abs_lt (Int.le_of_lt h0) (by omega))
  have q1 : 0 ≤ r' / n := Int.ediv_nonneg b1 (Int.le_of_lt h0)
  unfold Strm.W
  by_cases hr : 0 < r'
  · simp [hr]
    refine ⟨h0, hn, ?_⟩
    rw [Int.fdiv_eq_ediv_of_nonneg _ (Int.le_of_lt h0)]
    rw [gcW_len (W := (_ :: _ :: J)) (W' := (_ :: _ :: J)) (by simp)]
    exact h _ ⟨ns', r' / n, k', m'⟩ (Int.emod_nonneg _ (by omega)) (Int.emod_lt_of_pos _ h0) ⟨b0, q1, b2, by dsimp only; push_cast; omega, b4, b5⟩
  · simp [hr]
    have c1 : CMulW 9049 k' := cmulw (by decide) (abs_lt b2 (by omega))
    have c2 : CPow (m' + 9049 * k' + 130073) 5 := ⟨by decide, by decide, by omega⟩
    have c3 : 0 ≤ (m' + 9049 * k' + 130073) ^ 5 % 2147483629 := Int.emod_nonneg _ (by decide)
    have c4 : (m' + 9049 * k' + 130073) ^ 5 % 2147483629 < 2147483629 := Int.emod_lt_of_pos _ (by decide)
    refine ⟨c1, c2, ?_⟩
    generalize (m' + 9049 * k' + 130073) ^ 5 % 2147483629 = t at c3 c4 ⊢
    refine ⟨cmulw (abs_lt c3 (by omega)) (by decide), cmulw (by decide) (abs_lt b2 (by omega)), ⟨by decide, by decide, by omega⟩, h0, ?_⟩
    rw [gcW_len (W := (_ :: _ :: J)) (W' := (_ :: _ :: J)) (by simp)]
    exact h _ ⟨ns', r', k', m'⟩ (Int.emod_nonneg _ (by omega)) (Int.emod_lt_of_pos _ h0) ⟨b0, b1, b2, by dsimp only; push_cast; omega, b4, b5⟩
/-- _law_pick of a pure list -/
theorem pick {E : DX → Wd → Prop} {J : Wd} {s : Strm} {N : Nat} {xs : List D} (ok : s.ok N) (hN : N < 2 ^ 40) (h0 : 0 < xs.length) (h1 : xs.length ≤ sizeLine) (Q : RV → Wd → Prop)
    (h : ∀ (x : D) (s' : Strm), x ∈ xs → s'.ok (N + 1) → Q (.d x) (s'.W J)) : wpM (f__law_pick [.r 1, .d (.lst xs)]) (s.W J) Q E := by
  unfold f__law_pick
  rw [w_fnD]
  simp [m__law_pick, startD]
  have h2 : (xs.length : Int) < 2 ^ 200 := by
    have : sizeLine < 2 ^ 200 := by decide
    have h3 : xs.length < 2 ^ 200 := by omega
    exact_mod_cast h3
  refine below ok hN (by omega) h2 _ fun i s' hi0 hi1 ok' => ?_
  simp
  have lt : i.toNat < xs.length := by omega
  have e : atI (xs.map RV.d) i = some (.d xs[i.toNat]) := by
    unfold atI ixN
    rw [List.length_map, if_pos hi0, if_pos hi1]
    simp [lt]
  rw [e]
  simp
  exact h _ s' (List.getElem_mem lt) ok'
/-! isinstance -/
@[simp] theorem sub_non_non : Ty.sub .non .non = true := (rfl)
@[simp] theorem sub_non_bl : Ty.sub .non .bl = false := (rfl)
@[simp] theorem sub_non_int : Ty.sub .non .int = false := (rfl)
@[simp] theorem sub_non_str : Ty.sub .non .str = false := (rfl)
@[simp] theorem sub_non_lst : Ty.sub .non .lst = false := (rfl)
@[simp] theorem sub_non_tup : Ty.sub .non .tup = false := (rfl)
@[simp] theorem sub_non_dct : Ty.sub .non .dct = false := (rfl)
@[simp] theorem sub_bl_non : Ty.sub .bl .non = false := (rfl)
@[simp] theorem sub_bl_bl : Ty.sub .bl .bl = true := (rfl)
@[simp] theorem sub_bl_int : Ty.sub .bl .int = true := (rfl)
@[simp] theorem sub_bl_str : Ty.sub .bl .str = false := (rfl)
@[simp] theorem sub_bl_lst : Ty.sub .bl .lst = false := (rfl)
@[simp] theorem sub_bl_tup : Ty.sub .bl .tup = false := (rfl)
@[simp] theorem sub_bl_dct : Ty.sub .bl .dct = false := (rfl)
@[simp] theorem sub_int_non : Ty.sub .int .non = false := (rfl)
@[simp] theorem sub_int_bl : Ty.sub .int .bl = false := (rfl)
@[simp] theorem sub_int_int : Ty.sub .int .int = true := (rfl)
@[simp] theorem sub_int_str : Ty.sub .int .str = false := (rfl)
@[simp] theorem sub_int_lst : Ty.sub .int .lst = false := (rfl)
@[simp] theorem sub_int_tup : Ty.sub .int .tup = false := (rfl)
@[simp] theorem sub_int_dct : Ty.sub .int .dct = false := (rfl)
@[simp] theorem sub_str_non : Ty.sub .str .non = false := (rfl)
@[simp] theorem sub_str_bl : Ty.sub .str .bl = false := (rfl)
@[simp] theorem sub_str_int : Ty.sub .str .int = false := (rfl)
@[simp] theorem sub_str_str : Ty.sub .str .str = true := (rfl)
@[simp] theorem sub_str_lst : Ty.sub .str .lst = false := (rfl)
@[simp] theorem sub_str_tup : Ty.sub .str .tup = false := (rfl)
@[simp] theorem sub_str_dct : Ty.sub .str .dct = false := (rfl)
@[simp] theorem sub_lst_non : Ty.sub .lst .non = false := (rfl)
@[simp] theorem sub_lst_bl : Ty.sub .lst .bl = false := (rfl)
@[simp] theorem sub_lst_int : Ty.sub .lst .int = false := (rfl)
@[simp] theorem sub_lst_str : Ty.sub .lst .str = false := (rfl)
@[simp] theorem sub_lst_lst : Ty.sub .lst .lst = true := (rfl)
@[simp] theorem sub_lst_tup : Ty.sub .lst .tup = false := (rfl)
@[simp] theorem sub_lst_dct : Ty.sub .lst .dct = false := (rfl)
@[simp] theorem sub_tup_non : Ty.sub .tup .non = false := (rfl)
@[simp] theorem sub_tup_bl : Ty.sub .tup .bl = false := (rfl)
@[simp] theorem sub_tup_int : Ty.sub .tup .int = false := (rfl)
@[simp] theorem sub_tup_str : Ty.sub .tup .str = false := (rfl)
@[simp] theorem sub_tup_lst : Ty.sub .tup .lst = false := (rfl)
@[simp] theorem sub_tup_tup : Ty.sub .tup .tup = true := (rfl)
@[simp] theorem sub_tup_dct : Ty.sub .tup .dct = false := (rfl)
@[simp] theorem sub_dct_non : Ty.sub .dct .non = false := (rfl)
@[simp] theorem sub_dct_bl : Ty.sub .dct .bl = false := (rfl)
@[simp] theorem sub_dct_int : Ty.sub .dct .int = false := (rfl)
@[simp] theorem sub_dct_str : Ty.sub .dct .str = false := (rfl)
@[simp] theorem sub_dct_lst : Ty.sub .dct .lst = false := (rfl)
@[simp] theorem sub_dct_tup : Ty.sub .dct .tup = false := (rfl)
@[simp] theorem sub_dct_dct : Ty.sub .dct .dct = true := (rfl)
section
variable {W : Wd}
@[simp] theorem tyOf_non : tyOf W (.d .non) = some .non := (rfl)
@[simp] theorem tyOf_bl {b : Bool} : tyOf W (.d (.bl b)) = some .bl := (rfl)
@[simp] theorem tyOf_int {i : Int} : tyOf W (.d (.int i)) = some .int := (rfl)
@[simp] theorem tyOf_str {z : PySem.Str} : tyOf W (.d (.str z)) = some .str := (rfl)
@[simp] theorem tyOf_lst {xs : List D} : tyOf W (.d (.lst xs)) = some .lst := (rfl)
@[simp] theorem tyOf_tup {xs : List D} : tyOf W (.d (.tup xs)) = some .tup := (rfl)
@[simp] theorem tyOf_dK {xs : List (Key × D)} : tyOf W (.d (.dK xs)) = some .dct := (rfl)
@[simp] theorem tysOf_ty {t : Ty} : tysOf (.ty t) = if t = .non then none else some [t] := (rfl)
@[simp] theorem tysOf_tup {xs : List D} : tysOf (.tup xs) = tysOf.go xs := (rfl)
@[simp] theorem tysGo_nil : tysOf.go [] = some [] := (rfl)
@[simp] theorem tysGo_cons {t : Ty} {r : List D} : tysOf.go (.ty t :: r) = if t = .non then none else (tysOf.go r).map (t :: ·) := (rfl)
def allF (ns : List Bool) : M RV := M.ret (.d (.bl (ns.all id)))
def allK (o : Option (Bool × List RV)) : Option (List Bool) := o.bind fun p => if p.1 then none else blsL p.2
@[simp] theorem w_bAll {u : RV} {Q : RV → Wd → Prop} {E : DX → Wd → Prop} : wpM (bAll [u]) W Q E = lookK (allK (seqOf W u)) (kB allF Q E) W := by
  show wpM ((M.look _).bind _) W Q E = _
  rw [w_bind, w_look]; rfl
@[simp] theorem allK_some {xs : List RV} : allK (some (false, xs)) = blsL xs := (rfl)
@[simp] theorem allF_ap {ns : List Bool} : allF ns = M.ret (.d (.bl (ns.all id))) := (rfl)
theorem blsL_map {α : Type} (f : α → Bool) : ∀ xs : List α, blsL (xs.map fun x => .d (.bl (f x))) = some (xs.map f)
  | [] => rfl
  | x :: xs => by
    show (blsL (xs.map fun x => .d (.bl (f x)))).map (f x :: ·) = _
    rw [blsL_map f xs]; rfl
end
@[simp] theorem opIs_nn {n : Bool} : opIs n (.d .non) (.d .non) = M.ret (.d (.bl (!n))) := (rfl)
@[simp] theorem opIs_in {n : Bool} {i : Int} : opIs n (.d (.int i)) (.d .non) = M.ret (.d (.bl n)) := (rfl)
@[simp] theorem opIs_bn {n b : Bool} : opIs n (.d (.bl b)) (.d .non) = M.ret (.d (.bl n)) := (rfl)
@[simp] theorem opIs_sn {n : Bool} {z : PySem.Str} : opIs n (.d (.str z)) (.d .non) = M.ret (.d (.bl n)) := (rfl)
@[simp] theorem opIs_ln {n : Bool} {xs : List D} : opIs n (.d (.lst xs)) (.d .non) = M.ret (.d (.bl n)) := (rfl)
@[simp] theorem opIs_tn {n : Bool} {xs : List D} : opIs n (.d (.tup xs)) (.d .non) = M.ret (.d (.bl n)) := (rfl)
@[simp] theorem opIs_dn {n : Bool} {xs : List (Key × D)} : opIs n (.d (.dK xs)) (.d .non) = M.ret (.d (.bl n)) := (rfl)
@[simp] theorem opIs_rn {n : Bool} {l : Nat} : opIs n (.r l) (.d .non) = M.ret (.d (.bl n)) := (rfl)
/-! _law_same of a thing and itself -/
def sok : Nat → D → Bool
  | 0, _ => false
  | n + 1, .lst xs => decide (xs.length < sizeLine) && xs.all (sok n)
  | n + 1, .tup xs => decide (xs.length < sizeLine) && xs.all (sok n)
  | _ + 1, .int _ => true
  | _ + 1, .bl _ => true
  | _ + 1, .str _ => true
  | _ + 1, .non => true
  | _ + 1, _ => false
theorem zipD_same (xs : List D) : zipD xs xs = xs.map fun x => .tup [x, x] := by
  unfold zipD
  induction xs with
  | nil => rfl
  | cons x r ih => simp at ih ⊢; exact ih
theorem same_refl : ∀ (n : Nat) (x : D), sok n x = true → ∀ (W : Wd) (Q : RV → Wd → Prop) (E : DX → Wd → Prop), Q (.d (.bl true)) W → wpM (f__law_same n [.d x, .d x]) W Q E
  | 0, _, h, _, _, _, _ => by simp [sok] at h
  | n + 1, x, h, W, Q, E, hq => by
    rw [f__law_same_s, w_fnD]
    have ih := same_refl n
    have lc : ∀ (xs : List D) (E : DX → Wd → Prop) (Q : RV → Wd → Prop), xs.length < sizeLine → (∀ x, x ∈ xs → sok n x = true) → Q (.d (.lst ((zipD xs xs).map fun _ => .bl true))) W →
        wpM (lcF false (gtUnp 2 (gtCons (gtName 2) (gtCons (gtName 3) gtNil))) evYes (p__law_same_e1 (f__law_same n)) [some (RV.d (D.lst xs)), some (RV.d (D.lst xs)), none, none] (zipD xs xs)) W Q E := fun xs E Q h1 h2 hq => by
      refine w_noEr (goLc_fm (c := fun _ => true) (f := fun _ => .bl true) (by rw [zipD_same, List.length_map]; exact h1) (fun d hd => ?_) ?_)
      · rw [zipD_same, List.mem_map] at hd
        obtain ⟨x, hx, rfl⟩ := hd
        simp [p__law_same_e1]
        exact ih x (h2 x hx) _ _ _ ⟨rfl, rfl⟩
      · rw [List.filter_eq_self.mpr fun _ _ => rfl]; exact hq
    have lt : ∀ (xs : List D) (E : DX → Wd → Prop) (Q : RV → Wd → Prop), xs.length < sizeLine → (∀ x, x ∈ xs → sok n x = true) → Q (.d (.lst ((zipD xs xs).map fun _ => .bl true))) W →
        wpM (lcF false (gtUnp 2 (gtCons (gtName 2) (gtCons (gtName 3) gtNil))) evYes (p__law_same_e1 (f__law_same n)) [some (RV.d (D.tup xs)), some (RV.d (D.tup xs)), none, none] (zipD xs xs)) W Q E := fun xs E Q h1 h2 hq => by
      refine w_noEr (goLc_fm (c := fun _ => true) (f := fun _ => .bl true) (by rw [zipD_same, List.length_map]; exact h1) (fun d hd => ?_) ?_)
      · rw [zipD_same, List.mem_map] at hd
        obtain ⟨x, hx, rfl⟩ := hd
        simp [p__law_same_e1]
        exact ih x (h2 x hx) _ _ _ ⟨rfl, rfl⟩
      · rw [List.filter_eq_self.mpr fun _ _ => rfl]; exact hq
    have al : ∀ xs : List D, blsL (List.map RV.d ((zipD xs xs).map fun _ => D.bl true)) = some ((zipD xs xs).map fun _ => true) := fun xs => by
      rw [List.map_map]
      exact blsL_map (fun _ => true) _
    cases x with
    | lst xs =>
      simp [sok] at h
      simp [m__law_same, startD, wipeD]
      refine ⟨by decide, lc xs _ _ h.1 h.2 ?_⟩
      simp
      rw [show (List.map (RV.d ∘ fun x => D.bl true) (zipD xs xs)) = List.map RV.d ((zipD xs xs).map fun _ => D.bl true) from by rw [List.map_map], al]
      simp
      rw [List.all_eq_true.mpr fun _ _ => rfl]
      exact hq
    | tup xs =>
      simp [sok] at h
      simp [m__law_same, startD, wipeD]
      refine ⟨by decide, lt xs _ _ h.1 h.2 ?_⟩
      simp
      rw [show (List.map (RV.d ∘ fun x => D.bl true) (zipD xs xs)) = List.map RV.d ((zipD xs xs).map fun _ => D.bl true) from by rw [List.map_map], al]
      simp
      rw [List.all_eq_true.mpr fun _ _ => rfl]
      exact hq
    | int i => simp [m__law_same, startD]; exact ⟨by decide, hq⟩
    | bl b => simp [m__law_same, startD]; exact ⟨by decide, hq⟩
    | str z => simp [m__law_same, startD]; exact ⟨by decide, hq⟩
    | non => simp [m__law_same, startD]; exact ⟨by decide, hq⟩
    | ty _ => simp [sok] at h
    | frz _ => simp [sok] at h
    | dK _ => simp [sok] at h
    | dT _ => simp [sok] at h
    | obj _ _ => simp [sok] at h
    | lam _ _ => simp [sok] at h
    | exc _ _ _ _ _ => simp [sok] at h
end SH
set_option Elab.async false
set_option linter.all false
set_option maxRecDepth 100000
set_option maxHeartbeats 4000000
/-! MX: words for the mathematics: pure defs by equations, typed lists, equality. -/
namespace SH
open PySem PySem.Spec PyProof.Rows L2 RZ DL
/-! ### a call's answer as an equation -/
theorem pu_by {α : Type} {m : M α} {v : α} {W W1 : Wd} {Q : α → Wd → Prop} {E : DX → Wd → Prop} (h : ∀ (Q : α → Wd → Prop) (E : DX → Wd → Prop), Q v W1 → wpM m W Q E) : wpM m W Q E = Q v W1 := by
  have h0 := h (fun a W' => a = v ∧ W' = W1) (fun _ _ => False) ⟨rfl, rfl⟩
  unfold wpM at h0 ⊢
  cases e : m W with
  | none => rw [e] at h0; exact h0.elim
  | some p =>
    obtain ⟨r, W'⟩ := p
    rw [e] at h0
    cases r with
    | error x => exact h0.elim
    | ok a => obtain ⟨rfl, rfl⟩ := h0; rfl
/-! ### equality of data -/
mutual
def deq : D → D → Bool
  | .non, y => match y with | .non => true | _ => false
  | .bl a, y => match y with | .bl b => a == b | .int j => (if a then 1 else 0) == j | _ => false
  | .int i, y => match y with | .bl b => i == (if b then 1 else 0) | .int j => i == j | _ => false
  | .str a, y => match y with | .str b => a == b | _ => false
  | .lst xs, y => match y with | .lst ys => deqL xs ys | _ => false
  | .tup xs, y => match y with | .tup ys => deqL xs ys | _ => false
  | _, _ => false
def deqL : List D → List D → Bool
  | [], ys => match ys with | [] => true | _ => false
  | x :: xs, ys => match ys with | [] => false | y :: ys => deq x y && deqL xs ys
end
mutual
def shp : Nat → D → Bool
  | _, .non => true
  | _, .bl _ => true
  | _, .int _ => true
  | _, .str z => PyData.strOk z
  | n, .lst xs => match n with | 0 => false | n + 1 => shpL n xs
  | n, .tup xs => match n with | 0 => false | n + 1 => shpL n xs
  | _, _ => false
def shpL : Nat → List D → Bool
  | _, [] => true
  | n, x :: xs => shp n x && shpL n xs
end
mutual
theorem shp_py : ∀ (n : Nat) (x : D), shp n x = true → ∃ p, toPy x = some p ∧ p.canLay0 = true ∧ p.depth ≤ n
  | _, .non, _ => ⟨_, rfl, by simp [PyData.canLay0], by simp [PyData.depth]⟩
  | _, .bl _, _ => ⟨_, rfl, by simp [PyData.canLay0], by simp [PyData.depth]⟩
  | _, .int _, _ => ⟨_, rfl, by simp [PyData.canLay0], by simp [PyData.depth]⟩
  | _, .str z, h => ⟨_, rfl, by simpa [PyData.canLay0, shp] using h, by simp [PyData.depth]⟩
  | 0, .lst _, h => by simp [shp] at h
  | n + 1, .lst xs, h => by
    obtain ⟨ps, e, h1, h2⟩ := shpL_py n xs (by simpa [shp] using h)
    exact ⟨.list ps, by simp [toPy, e], by simpa [PyData.canLay0] using h1, by simp [PyData.depth]; omega⟩
  | 0, .tup _, h => by simp [shp] at h
  | n + 1, .tup xs, h => by
    obtain ⟨ps, e, h1, h2⟩ := shpL_py n xs (by simpa [shp] using h)
    exact ⟨.tuple ps, by simp [toPy, e], by simpa [PyData.canLay0] using h1, by simp [PyData.depth]; omega⟩
  | _, .ty _, h => by simp [shp] at h
  | _, .frz _, h => by simp [shp] at h
  | _, .dK _, h => by simp [shp] at h
  | _, .dT _, h => by simp [shp] at h
  | _, .obj _ _, h => by simp [shp] at h
theorem shpL_py : ∀ (n : Nat) (xs : List D), shpL n xs = true → ∃ ps, toPy.toPyL xs = some ps ∧ PyData.canLayAll0 ps = true ∧ PyData.depthAll ps ≤ n
  | _, [], _ => ⟨[], rfl, by simp [PyData.canLayAll0], by simp [PyData.depthAll]⟩
  | n, x :: xs, h => by
    rw [shpL, Bool.and_eq_true] at h
    obtain ⟨p, e1, h1, h2⟩ := shp_py n x h.1
    obtain ⟨ps, e2, h3, h4⟩ := shpL_py n xs h.2
    exact ⟨p :: ps, by simp [toPy.toPyL, e1, e2], by simp [PyData.canLayAll0, h1, h3], by simp [PyData.depthAll]; omega⟩
end
mutual
theorem deq_eqv : ∀ (x y : D) (p q : PyData), toPy x = some p → toPy y = some q → PyData.eqv p q = deq x y
  | .non, y, p, q, hx, hy => by cases hx; cases y <;> simp [toPy] at hy <;> (try (obtain ⟨_, _, rfl⟩ := hy)) <;> (try subst hy) <;> simp [PyData.eqv, deq]
  | .bl b, y, p, q, hx, hy => by cases hx; cases y <;> simp [toPy] at hy <;> (try (obtain ⟨_, _, rfl⟩ := hy)) <;> (try subst hy) <;> simp [PyData.eqv, deq]
  | .int b, y, p, q, hx, hy => by cases hx; cases y <;> simp [toPy] at hy <;> (try (obtain ⟨_, _, rfl⟩ := hy)) <;> (try subst hy) <;> simp [PyData.eqv, deq]
  | .str b, y, p, q, hx, hy => by cases hx; cases y <;> simp [toPy] at hy <;> (try (obtain ⟨_, _, rfl⟩ := hy)) <;> (try subst hy) <;> simp [PyData.eqv, deq]
  | .lst xs, y, p, q, hx, hy => by
    simp only [toPy, Option.map_eq_some_iff] at hx
    obtain ⟨ps, e, rfl⟩ := hx
    cases y <;> simp only [toPy, Option.map_eq_some_iff] at hy <;> (try (obtain ⟨qs, e2, rfl⟩ := hy)) <;> (try cases hy) <;> simp only [PyData.eqv, deq]
    exact deqL_eqv xs _ ps qs e e2
  | .tup xs, y, p, q, hx, hy => by
    simp only [toPy, Option.map_eq_some_iff] at hx
    obtain ⟨ps, e, rfl⟩ := hx
    cases y <;> simp only [toPy, Option.map_eq_some_iff] at hy <;> (try (obtain ⟨qs, e2, rfl⟩ := hy)) <;> (try cases hy) <;> simp only [PyData.eqv, deq]
    exact deqL_eqv xs _ ps qs e e2
  | .ty _, _, _, _, hx, _ => by simp [toPy] at hx
  | .frz _, _, _, _, hx, _ => by simp [toPy] at hx
  | .dK _, _, _, _, hx, _ => by simp [toPy] at hx
  | .dT _, _, _, _, hx, _ => by simp [toPy] at hx
  | .obj _ _, _, _, _, hx, _ => by simp [toPy] at hx
theorem deqL_eqv : ∀ (xs ys : List D) (ps qs : List PyData), toPy.toPyL xs = some ps → toPy.toPyL ys = some qs → PyData.eqvAll ps qs = deqL xs ys
  | [], [], _, _, hx, hy => by cases hx; cases hy; rfl
  | [], y :: ys, ps, qs, hx, hy => by
    cases hx
    simp only [toPy.toPyL] at hy
    cases e1 : toPy y <;> cases e2 : toPy.toPyL ys <;> rw [e1, e2] at hy <;> simp at hy
    subst hy; rfl
  | x :: xs, [], ps, qs, hx, hy => by
    cases hy
    simp only [toPy.toPyL] at hx
    cases e1 : toPy x <;> cases e2 : toPy.toPyL xs <;> rw [e1, e2] at hx <;> simp at hx
    subst hx; rfl
  | x :: xs, y :: ys, ps, qs, hx, hy => by
    simp only [toPy.toPyL] at hx hy
    cases e1 : toPy x <;> cases e2 : toPy.toPyL xs <;> rw [e1, e2] at hx <;> simp at hx
    cases e3 : toPy y <;> cases e4 : toPy.toPyL ys <;> rw [e3, e4] at hy <;> simp at hy
    subst hx hy
    rw [PyData.eqvAll, deqL, deq_eqv x y _ _ e1 e3, deqL_eqv xs ys _ _ e2 e4]
end
theorem eqvD_pure {W : Wd} {x y : D} (hx : shp 60 x = true) (hy : shp 60 y = true) : eqvD W (.d x) (.d y) = some (deq x y) := by
  obtain ⟨p, e1, h1, h2⟩ := shp_py 60 x hx
  obtain ⟨q, e2, h3, h4⟩ := shp_py 60 y hy
  unfold eqvD
  show ((toPy x).bind _) = _
  rw [e1]
  show ((toPy y).bind _) = _
  rw [e2]
  show (if SeqAt.shaped p = true ∧ SeqAt.shaped q = true then some (PyData.eqv p q) else none) = _
  rw [if_pos ⟨by unfold SeqAt.shaped; rw [h1]; simp; omega, by unfold SeqAt.shaped; rw [h3]; simp; omega⟩, deq_eqv x y p q e1 e2]
theorem w_eq {W : Wd} {x y : D} {neg : Bool} {Q : RV → Wd → Prop} {E : DX → Wd → Prop} (hx : shp 60 x = true) (hy : shp 60 y = true) : wpM (opEq neg (.d x) (.d y)) W Q E = Q (.d (.bl (deq x y != neg))) W := by
  unfold opEq
  by_cases h : isScal (.d x) (.d y) = true
  · rw [if_pos h]
    have h' := h
    unfold isScal at h'
    obtain ⟨b, hb⟩ := Option.isSome_iff_exists.mp h'
    have : b = deq x y := by
      cases x <;> cases y <;> simp [scalD] at hb <;> subst hb <;> simp only [deq] <;> exact (Bool.beq_eq_decide_eq _ _).symm
    subst this
    unfold opEqS
    rw [hb]
    rfl
  · rw [if_neg h]
    unfold opEqD
    rw [w_bind, w_look, eqvD_pure hx hy]
    rfl
theorem deqL_map {α β : Type} (f : α → D) (g : β → D) (e : α → β → Bool) (h : ∀ a b, deq (f a) (g b) = e a b) : ∀ (xs : List α) (ys : List β), deqL (xs.map f) (ys.map g) = (decide (xs.length = ys.length) && (xs.zip ys).all fun p => e p.1 p.2)
  | [], [] => rfl
  | [], _ :: _ => by simp [deqL]
  | _ :: _, [] => by simp [deqL]
  | x :: xs, y :: ys => by
    simp only [List.map_cons, deqL, h, deqL_map f g e h xs ys, List.length_cons, List.zip_cons_cons, List.all_cons]
    cases e x y <;> simp
theorem deqL_inj {α : Type} [DecidableEq α] (f : α → D) (h : ∀ a b, deq (f a) (f b) = decide (a = b)) : ∀ (xs ys : List α), deqL (xs.map f) (ys.map f) = decide (xs = ys)
  | [], [] => rfl
  | [], _ :: _ => by simp [deqL]
  | _ :: _, [] => by simp [deqL]
  | x :: xs, y :: ys => by
    simp only [List.map_cons, deqL, h, deqL_inj f h xs ys, List.cons.injEq, Bool.decide_and]
@[simp] theorem deq_int {i j : Int} : deq (.int i) (.int j) = decide (i = j) := by simp only [deq]; exact Bool.beq_eq_decide_eq i j
theorem shpL_map {α : Type} {n : Nat} (f : α → D) (h : ∀ a, shp n (f a) = true) : ∀ xs : List α, shpL n (xs.map f) = true
  | [] => rfl
  | x :: xs => by rw [List.map_cons, shpL, h, shpL_map f h xs]; rfl
/-! ### lists of ints  -/
abbrev dI (r : List Int) : List D := r.map D.int
abbrev lI (r : List Int) : D := .lst (dI r)
abbrev lR (rs : List (List Int)) : D := .lst (rs.map lI)
@[simp] theorem shp_int {n : Nat} {i : Int} : shp n (.int i) = true := by simp [shp]
@[simp] theorem shp_lI {n : Nat} {r : List Int} : shp (n + 1) (lI r) = true := by simp only [shp]; exact shpL_map _ (fun _ => shp_int) r
@[simp] theorem shp_lR {n : Nat} {r : List (List Int)} : shp (n + 2) (lR r) = true := by simp only [shp]; exact shpL_map _ (fun _ => shp_lI) r
@[simp] theorem deq_lI {a b : List Int} : deq (lI a) (lI b) = decide (a = b) := by simp only [deq]; exact deqL_inj _ (fun _ _ => deq_int) a b
@[simp] theorem deq_lR {a b : List (List Int)} : deq (lR a) (lR b) = decide (a = b) := by simp only [deq]; exact deqL_inj _ (fun _ _ => deq_lI) a b
/-! ### items -/
@[simp] theorem atI_nat' {α : Type} {xs : List α} {j : Nat} : atI xs (j : Int) = xs[j]? := by
  cases h : xs[j]? with
  | some v => exact atI_nat h
  | none =>
    unfold atI ixN
    rw [if_pos (by omega), if_neg (by have := List.getElem?_eq_none_iff.mp h; omega)]; rfl
theorem atI_neg1 {α : Type} {xs : List α} : atI xs (-1) = xs.getLast? := by
  rcases List.eq_nil_or_concat xs with rfl | ⟨l, a, rfl⟩
  · rfl
  · rw [List.concat_eq_append, atI_last]; simp
theorem zipD_map {α β : Type} (f : α → D) (g : β → D) (xs : List α) (ys : List β) : zipD (xs.map f) (ys.map g) = (xs.zip ys).map fun p => .tup [f p.1, g p.2] := by
  unfold zipD
  rw [List.zip_map, List.map_map]; rfl
theorem enumD_map {α : Type} (f : α → D) (xs : List α) : enumD (xs.map f) = xs.zipIdx.map fun p => .tup [.int (p.2 : Nat), f p.1] := by
  unfold enumD
  rw [List.zipIdx_map, List.map_map]; rfl
/-! ### comprehensions -/
section
variable {W : Wd} {E : DX → Wd → Prop} {Q : RV → Wd → Prop} {δ : DL.Env} {T : RV → DL.Env → M DL.Env} {Ta : DL.Env → M Bool} {F : DL.Env → M RV}
theorem lc_eq {α : Type} (xs : List α) (g f : α → D) (c : α → Bool) (hz : xs.length < sizeLine)
    (step : ∀ x ∈ xs, wpM (T (.d (g x)) δ) W (fun δ1 W1 => wpM (Ta δ1) W1 (fun b W2 => b = c x ∧ (b = true → wpM (F δ1) W2 (fun v W3 => v = .d (f x) ∧ W3 = W) fun _ _ => False) ∧ (b = false → W2 = W)) fun _ _ => False) fun _ _ => False) :
    wpM (lcF false T Ta F δ (xs.map g)) W Q E = Q (.d (.lst ((xs.filter c).map f))) W := by
  refine pu_by fun Q E hq => w_noEr ?_
  refine goLc_inv (P := fun i acc W' => acc = ((((xs.take i).filter c).map f).map RV.d) ∧ W' = W) (xs.map g) (by simpa using hz) (fun i d acc W' hd hp => ?_) (xs.map g) 0 [] W rfl (Nat.zero_le _) (Nat.le_refl _) ⟨by simp, rfl⟩ fun acc W' _ hp => ?_
  · obtain ⟨rfl, rfl⟩ := hp
    rw [List.getElem?_map] at hd
    cases hx : xs[i]? with
    | none => rw [hx] at hd; cases hd
    | some x =>
      rw [hx] at hd
      cases hd
      refine wpM_and (step x (List.mem_of_getElem? hx)) fun δ1 W1 h1 => wpM_and h1 fun b W2 h2 => ?_
      obtain ⟨rfl, h3, h4⟩ := h2
      rw [List.take_add_one, hx]
      cases e : c x with
      | true =>
        rw [if_pos rfl]
        refine wpM_and (h3 e) fun v W3 h5 => ?_
        obtain ⟨rfl, rfl⟩ := h5
        simp [List.filter_append, e]
      | false =>
        rw [if_neg (by decide)]
        rw [h4 e]
        simp [List.filter_append, e]
  · obtain ⟨rfl, rfl⟩ := hp
    rw [w_newL_f, List.length_map, List.take_length]
    exact hq
theorem lc_map {α : Type} (xs : List α) (g f : α → D) (hz : xs.length < sizeLine)
    (step : ∀ x ∈ xs, wpM (T (.d (g x)) δ) W (fun δ1 W1 => wpM (F δ1) W1 (fun v W3 => v = .d (f x) ∧ W3 = W) fun _ _ => False) fun _ _ => False) :
    wpM (lcF false T evYes F δ (xs.map g)) W Q E = Q (.d (.lst (xs.map f))) W := by
  have := lc_eq (Q := Q) (E := E) (Ta := evYes) (F := F) (T := T) (δ := δ) (W := W) xs g f (fun _ => true) hz fun x hx => wpM_and (step x hx) fun δ1 W1 h1 => ⟨rfl, fun _ => h1, fun z => Bool.noConfusion z⟩
  rwa [List.filter_eq_self.mpr fun _ _ => rfl] at this
end
end SH
namespace SH
open PySem PySem.Spec PyProof.Rows L2 RZ DL
section
variable {W : Wd} {E : DX → Wd → Prop} {Q : RV → Wd → Prop}
@[simp] theorem intsL_c {α : Type} (f : α → Int) (xs : List α) : intsL (xs.map (RV.d ∘ fun x => D.int (f x))) = some (xs.map f) := by have := intsL_map (xs.map f); rwa [List.map_map, List.map_map] at this
@[simp] theorem intsL_c0 (xs : List Int) : intsL (xs.map (RV.d ∘ D.int)) = some xs := by have := intsL_map xs; rwa [List.map_map] at this
theorem intsFrom_succ (lo : Int) (n : Nat) : DL.intsFrom lo (n + 1) = D.int lo :: DL.intsFrom (lo + 1) n := by
  unfold DL.intsFrom
  rw [List.range_succ_eq_map, List.map_cons, List.map_map]
  simp only [Int.natCast_zero, Int.add_zero]
  congr 1
  refine List.map_congr_left fun i _ => ?_
  simp only [Function.comp, D.int.injEq]
  omega
@[simp] theorem intsFrom_zero (lo : Int) : DL.intsFrom lo 0 = [] := rfl
theorem w_rep1 {x : D} {n : Nat} (hn : n ≤ sizeLine) : wpM (opMul false (.d (.lst [x])) (.d (.int (n : Nat)))) W Q E = Q (.d (.lst (List.replicate n x))) W := by
  have e : opMul false (.d (.lst [x])) (.d (.int (n : Nat))) = opRep false (.d (.lst [x])) (.d (.int (n : Nat))) := rfl
  rw [e]
  unfold opRep
  rw [w_bind, w_look]
  simp only [seqOf_l, lookK_some, kB_ap, List.map_cons, List.map_nil]
  rw [w_bind, w_guard]
  have hz : sizeLine < 2 ^ 62 := by decide
  rw [kB_ap]
  have h2 : ∀ n : Nat, (List.replicate n [RV.d x]).flatten = (List.replicate n x).map RV.d := fun n => by
    induction n with
    | zero => rfl
    | succ n ih => rw [List.replicate_succ, List.replicate_succ, List.flatten_cons, ih]; rfl
  rw [Int.toNat_natCast, h2, w_newL_f]
  refine propext ⟨fun h => h.2, fun h => ⟨⟨by omega, by omega, ?_⟩, h⟩⟩
  simpa using hn
theorem small_line {n : Nat} (h : n < 10000) : n < sizeLine := Nat.lt_trans h (by decide)
theorem small_le {n : Nat} (h : n < 10000) : n ≤ sizeLine := Nat.le_of_lt (small_line h)
@[simp] theorem dI_len {r : List Int} : (dI r).length = r.length := List.length_map ..
@[simp] theorem bGcd_i {i j : Int} : bGcd [.d (.int i), .d (.int j)] = M.ret (.d (.int ((Nat.gcd i.natAbs j.natAbs : Nat) : Int))) := rfl
@[simp] theorem bMin_i {i j : Int} : bMin [.d (.int i), .d (.int j)] = M.ret (.d (.int (if j < i then j else i))) := rfl
@[simp] theorem bMax_i {i j : Int} : bMax [.d (.int i), .d (.int j)] = M.ret (.d (.int (if j > i then j else i))) := rfl
@[simp] theorem bAbs_i {i : Int} : bAbs [.d (.int i)] = M.ret (.d (.int (if i < 0 then -i else i))) := rfl
def negF (u : RV) : M RV := (asI u).bind fun i => M.ret (.d (.int (-i)))
@[simp] theorem w_neg {F : DL.Env → M RV} {δ : DL.Env} : wpM (evNeg F δ) W Q E = wpM (F δ) W (kB negF Q E) E := propext wpM_bind
@[simp] theorem negF_i {i : Int} : negF (.d (.int i)) = M.ret (.d (.int (-i))) := rfl
@[simp] theorem w_forF {T : RV → DL.Env → M DL.Env} {B : DL.Env → M (Fl × DL.Env)} {δ : DL.Env} {ds : List D} {QF : Fl × DL.Env → Wd → Prop} : wpM (forF T B δ ds) W QF E = wpM (goFor T B ds δ) W QF E := rfl
@[simp] theorem w_newL_c {α : Type} {f : α → D} {l : List α} : wpM (newL false (l.map (RV.d ∘ f))) W Q E = Q (.d (.lst (l.map f))) W := by rw [← List.map_map, w_newL_f]
@[simp] theorem w_newT_c {α : Type} {f : α → D} {l : List α} : wpM (newT (l.map (RV.d ∘ f))) W Q E = Q (.d (.tup (l.map f))) W := by rw [← List.map_map, w_newT]
theorem w_newL_p {us : List RV} {ds : List D} (h : us = ds.map RV.d) : wpM (newL false us) W Q E = Q (.d (.lst ds)) W := by rw [h, w_newL_f]
@[simp] theorem w_newL_app {α : Type} {f : α → D} {l : List α} {x : D} : wpM (newL false (l.map (RV.d ∘ f) ++ [.d x])) W Q E = Q (.d (.lst (l.map f ++ [x]))) W := w_newL_p (by simp)
@[simp] theorem w_newL_app2 {α β : Type} {f : α → D} {g : β → D} {l : List α} {m : List β} : wpM (newL false (l.map (RV.d ∘ f) ++ m.map (RV.d ∘ g))) W Q E = Q (.d (.lst (l.map f ++ m.map g))) W := w_newL_p (by simp)
@[simp] theorem w_newL_app3 {l m : List D} : wpM (newL false (l.map RV.d ++ m.map RV.d)) W Q E = Q (.d (.lst (l ++ m))) W := w_newL_p (by simp)
/-! ### sorted by a key -/
noncomputable def sortA (Fn : List RV → M RV) (u : RV) : M RV := match u with
  | .d (.lst xs) => sortK Fn xs
  | _ => M.fail
@[simp] theorem w_evSortK {Fn : List RV → M RV} {F : DL.Env → M RV} {δ : DL.Env} : wpM (evSortK Fn F δ) W Q E = wpM (F δ) W (kB (sortA Fn) Q E) E := by
  unfold evSortK
  rw [w_bind]
  congr 1
@[simp] theorem sortA_l {Fn : List RV → M RV} {xs : List D} : sortA Fn (.d (.lst xs)) = sortK Fn xs := (rfl)
def sortBy {α : Type} (k : α → Int) (xs : List α) : List α := (byKey (xs.map fun x => (x, k x))).map (·.1)
theorem sortBy_perm {α : Type} (k : α → Int) (xs : List α) : (sortBy k xs).Perm xs := by
  unfold sortBy byKey
  refine ((List.mergeSort_perm _ _).map _).trans ?_
  rw [List.map_map]
  rw [show ((fun p : α × Int => p.1) ∘ fun x => (x, k x)) = id from rfl, List.map_id]
theorem sortBy_sorted {α : Type} (k : α → Int) (xs : List α) : (sortBy k xs).Pairwise fun x y => k x ≤ k y := by
  have h := List.pairwise_mergeSort (le := fun (x y : α × Int) => decide (x.2 ≤ y.2)) (fun a b c h1 h2 => by simp at h1 h2 ⊢; omega) (fun a b => by simp; omega) (xs.map fun x => (x, k x))
  unfold sortBy byKey
  rw [List.pairwise_map]
  refine List.Pairwise.imp_of_mem (fun {a b} ha hb h => ?_) h
  have e : ∀ p, p ∈ List.mergeSort (xs.map fun x => (x, k x)) (fun x y => decide (x.2 ≤ y.2)) → p.2 = k p.1 := fun p hp => by
    have := (List.mergeSort_perm _ _).mem_iff.mp hp
    simp at this
    obtain ⟨a, _, rfl⟩ := this
    rfl
  rw [← e a ha, ← e b hb]
  simpa using h
theorem sortBy_of {α : Type} (k : α → Int) (xs : List α) (h : xs.Pairwise fun x y => k x ≤ k y) : sortBy k xs = xs := by
  unfold sortBy byKey
  rw [List.mergeSort_of_pairwise]
  · rw [List.map_map, show ((fun p : α × Int => p.1) ∘ fun x => (x, k x)) = id from rfl, List.map_id]
  · rw [List.pairwise_map]
    exact h.imp fun h => by simpa using h
theorem w_sortKey {α : Type} {Fn : List RV → M RV} (xs : List α) (g : α → D) (k : α → Int) (hk : ∀ x ∈ xs, wpM (Fn [.d (g x)]) W (fun r W1 => r = .d (.int (k x)) ∧ W1 = W) fun _ _ => False) : wpM (sortK Fn (xs.map g)) W Q E = Q (.d (.lst ((sortBy k xs).map g))) W := by
  refine pu_by fun Q E hq => ?_
  refine w_sortK (ks := xs.map k) ⟨by simp, fun i u z h1 h2 => ?_⟩ ?_
  · rw [List.getElem?_map] at h1 h2
    cases e : xs[i]? with
    | none => rw [e] at h1; cases h1
    | some x =>
      rw [e] at h1 h2
      cases h1
      cases h2
      exact hk x (List.mem_of_getElem? e)
  · have e : (xs.map g).zip (xs.map k) = (xs.map fun x => (x, k x)).map fun p => (g p.1, p.2) := by
      rw [List.map_map]
      clear hk hq
      induction xs with
      | nil => rfl
      | cons x r ih => simp [ih]
    rw [e, ← byKey_map, List.map_map]
    have e2 : ((fun p : D × Int => p.1) ∘ fun p : α × Int => (g p.1, p.2)) = g ∘ fun p : α × Int => p.1 := rfl
    rw [e2, ← List.map_map]
    exact hq
/-! ### chains -/
def chZ (g : Int → Int → Bool) (v z : RV) : M RV := (M.opt (int2 v z)).bind fun q => M.ret (.d (.bl (g q.1 q.2)))
def chB (f g : Int → Int → Bool) (Fc : DL.Env → M RV) (δ : DL.Env) (u v : RV) : M RV := (M.opt (int2 u v)).bind fun p => if f p.1 p.2 then (Fc δ).bind (chZ g v) else M.ret (.d (.bl false))
def chA (f g : Int → Int → Bool) (Fb Fc : DL.Env → M RV) (δ : DL.Env) (u : RV) : M RV := (Fb δ).bind (chB f g Fc δ u)
@[simp] theorem w_chain {f g : Int → Int → Bool} {Fa Fb Fc : DL.Env → M RV} {δ : DL.Env} : wpM (evChain f g Fa Fb Fc δ) W Q E = wpM (Fa δ) W (kB (chA f g Fb Fc δ) Q E) E := by
  show wpM ((Fa δ).bind _) W Q E = _
  rw [w_bind]
  rfl
@[simp] theorem w_chA {f g : Int → Int → Bool} {Fb Fc : DL.Env → M RV} {δ : DL.Env} {u : RV} : wpM (chA f g Fb Fc δ u) W Q E = wpM (Fb δ) W (kB (chB f g Fc δ u) Q E) E := propext wpM_bind
@[simp] theorem w_chB {f g : Int → Int → Bool} {Fc : DL.Env → M RV} {δ : DL.Env} {i j : Int} : wpM (chB f g Fc δ (.d (.int i)) (.d (.int j))) W Q E = if f i j = true then wpM (Fc δ) W (kB (chZ g (.d (.int j))) Q E) E else Q (.d (.bl false)) W := by
  show wpM (if f i j then _ else _) W Q E = _
  rw [w_ite]
  split
  · rw [w_bind]
  · rfl
@[simp] theorem w_chZ {g : Int → Int → Bool} {i j : Int} : wpM (chZ g (.d (.int i)) (.d (.int j))) W Q E = Q (.d (.bl (g i j))) W := rfl
/-! ### in a list of ints -/
theorem inV_ints (c : Int) (r : List Int) : inV (.int c) (r.map V.int) = decide (c ∈ r) := by
  unfold inV
  rw [List.any_map]
  induction r with
  | nil => rfl
  | cons x r ih =>
    rw [List.any_cons, ih]
    have h1 : ((fun y => eqV y (V.int c)) ∘ V.int) x = decide (c = x) := by
      show (x == c) = _
      by_cases h : c = x
      · subst h; simp
      · simp [h]; exact fun z => h z.symm
    rw [h1]
    by_cases h : c = x
    · subst h; simp
    · simp [h]
theorem flL_ints : ∀ r : List Int, flL ((dI r).map RV.d) = some (r.map V.int)
  | [] => rfl
  | x :: r => by
    show (match flD (.d (.int x)), flL ((dI r).map RV.d) with | some a, some b => some (a :: b) | _, _ => none) = _
    rw [flL_ints r]; rfl
theorem opInL_dI {t neg : Bool} {c : Int} {r : List Int} : wpM (opInL neg (.d (.int c)) (.d (if t then .tup (dI r) else .lst (dI r)))) W Q E = Q (.d (.bl (decide (c ∈ r) != neg))) W := by
  unfold opInL
  rw [w_bind, w_look]
  have e : seqOf W (.d (if t then D.tup (dI r) else .lst (dI r))) = some (t, (dI r).map RV.d) := by cases t <;> rfl
  rw [e]
  simp only [flD, flL_ints, Option.map_some, lookK_some, kB_ap, inV_ints]
  rfl
@[simp] theorem opIn_lI {neg : Bool} {c : Int} {r : List Int} : wpM (opIn neg (.d (.int c)) (.d (lI r))) W Q E = Q (.d (.bl (decide (c ∈ r) != neg))) W := opInL_dI (t := false)
@[simp] theorem opIn_tI {neg : Bool} {c : Int} {r : List Int} : wpM (opIn neg (.d (.int c)) (.d (.tup (dI r)))) W Q E = Q (.d (.bl (decide (c ∈ r) != neg))) W := opInL_dI (t := true)
@[simp] theorem opIn_t2 {neg : Bool} {c a b : Int} : wpM (opIn neg (.d (.int c)) (.d (.tup [.int a, .int b]))) W Q E = Q (.d (.bl (decide (c ∈ [a, b]) != neg))) W := opInL_dI (t := true) (r := [a, b])
/-! ### a list or a tuple -/
def sq (t : Bool) (xs : List D) : D := if t then .tup xs else .lst xs
theorem sq_f {xs : List D} : sq false xs = .lst xs := rfl
theorem sq_t {xs : List D} : sq true xs = .tup xs := rfl
@[simp] theorem seqOf_sq {t : Bool} {xs : List D} : seqOf W (.d (sq t xs)) = some (t, xs.map RV.d) := by cases t <;> rfl
def tyS (t : Bool) : Ty := if t then .tup else .lst
@[simp] theorem tyOf_sq {t : Bool} {xs : List D} : tyOf W (.d (sq t xs)) = some (tyS t) := by cases t <;> rfl
@[simp] theorem w_bLen_sq {t : Bool} {xs : List D} : wpM (bLen [.d (sq t xs)]) W Q E = Q (.d (.int xs.length)) W := by cases t; exact w_bLen_l; exact w_bLen_t
@[simp] theorem w_opIx_sq {t : Bool} {xs : List D} {i : Int} : wpM (opIx (.d (sq t xs)) (.d (.int i))) W Q E = lookK (ixK i (seqOf W (.d (sq t xs)))) Q W := by cases t; exact w_opIx_l; exact w_opIx_t
@[simp] theorem iterA_sq {t : Bool} {xs : List D} : iterA (.d (sq t xs)) = M.ret xs := by cases t <;> rfl
@[simp] theorem any_seq {t : Bool} : ([Ty.lst, Ty.tup].any (tyS t).sub) = true := by cases t <;> rfl
@[simp] theorem sub_S_lst {t : Bool} : (tyS t).sub .lst = !t := by cases t <;> rfl
@[simp] theorem sub_S_tup {t : Bool} : (tyS t).sub .tup = t := by cases t <;> rfl
@[simp] theorem sub_S_int {t : Bool} : (tyS t).sub .int = false := by cases t <;> rfl
@[simp] theorem sub_S_str {t : Bool} : (tyS t).sub .str = false := by cases t <;> rfl
@[simp] theorem sub_S_dct {t : Bool} : (tyS t).sub .dct = false := by cases t <;> rfl
@[simp] theorem w_bList_sq {mk t : Bool} {xs : List D} : wpM (bList mk [.d (sq t xs)]) W Q E = wpM (newL mk (xs.map RV.d)) W Q E := by cases t; exact w_bList_l; exact w_bList_t
@[simp] theorem w_bTuple_ll {xs : List D} : wpM (bTuple [.d (.lst xs)]) W Q E = Q (.d (.tup xs)) W := w_bTuple_l
@[simp] theorem blsL_c {α : Type} (f : α → Bool) (xs : List α) : blsL (xs.map (RV.d ∘ fun x => D.bl (f x))) = some (xs.map f) := blsL_map f xs
@[simp] theorem blsL_dI {α : Type} (f : α → Bool) (xs : List α) : blsL ((xs.map fun x => D.bl (f x)).map RV.d) = some (xs.map f) := by
  rw [List.map_map]; exact blsL_map f xs
end
end SH
namespace SH
open PySem PySem.Spec PyProof.Rows L2 RZ DL
@[simp] theorem line_0 : 0 ≤ sizeLine := by decide
@[simp] theorem lt_line_0 : 0 < sizeLine := by decide
@[simp] theorem line_1 : 1 ≤ sizeLine := by decide
@[simp] theorem lt_line_1 : 1 < sizeLine := by decide
@[simp] theorem line_2 : 2 ≤ sizeLine := by decide
@[simp] theorem lt_line_2 : 2 < sizeLine := by decide
@[simp] theorem line_3 : 3 ≤ sizeLine := by decide
@[simp] theorem lt_line_3 : 3 < sizeLine := by decide
@[simp] theorem line_4 : 4 ≤ sizeLine := by decide
@[simp] theorem lt_line_4 : 4 < sizeLine := by decide
@[simp] theorem line_5 : 5 ≤ sizeLine := by decide
@[simp] theorem lt_line_5 : 5 < sizeLine := by decide
@[simp] theorem line_6 : 6 ≤ sizeLine := by decide
@[simp] theorem lt_line_6 : 6 < sizeLine := by decide
@[simp] theorem line_7 : 7 ≤ sizeLine := by decide
@[simp] theorem lt_line_7 : 7 < sizeLine := by decide
@[simp] theorem line_8 : 8 ≤ sizeLine := by decide
@[simp] theorem lt_line_8 : 8 < sizeLine := by decide
@[simp] theorem line_9 : 9 ≤ sizeLine := by decide
@[simp] theorem lt_line_9 : 9 < sizeLine := by decide
@[simp] theorem line_10 : 10 ≤ sizeLine := by decide
@[simp] theorem lt_line_10 : 10 < sizeLine := by decide
@[simp] theorem line_11 : 11 ≤ sizeLine := by decide
@[simp] theorem lt_line_11 : 11 < sizeLine := by decide
@[simp] theorem line_12 : 12 ≤ sizeLine := by decide
@[simp] theorem lt_line_12 : 12 < sizeLine := by decide
@[simp] theorem line_13 : 13 ≤ sizeLine := by decide
@[simp] theorem lt_line_13 : 13 < sizeLine := by decide
@[simp] theorem line_14 : 14 ≤ sizeLine := by decide
@[simp] theorem lt_line_14 : 14 < sizeLine := by decide
@[simp] theorem line_15 : 15 ≤ sizeLine := by decide
@[simp] theorem lt_line_15 : 15 < sizeLine := by decide
@[simp] theorem line_16 : 16 ≤ sizeLine := by decide
@[simp] theorem lt_line_16 : 16 < sizeLine := by decide
@[simp] theorem line_17 : 17 ≤ sizeLine := by decide
@[simp] theorem lt_line_17 : 17 < sizeLine := by decide
@[simp] theorem line_18 : 18 ≤ sizeLine := by decide
@[simp] theorem lt_line_18 : 18 < sizeLine := by decide
@[simp] theorem line_19 : 19 ≤ sizeLine := by decide
@[simp] theorem lt_line_19 : 19 < sizeLine := by decide
@[simp] theorem line_20 : 20 ≤ sizeLine := by decide
@[simp] theorem lt_line_20 : 20 < sizeLine := by decide
@[simp] theorem line_21 : 21 ≤ sizeLine := by decide
@[simp] theorem lt_line_21 : 21 < sizeLine := by decide
@[simp] theorem line_22 : 22 ≤ sizeLine := by decide
@[simp] theorem lt_line_22 : 22 < sizeLine := by decide
@[simp] theorem line_23 : 23 ≤ sizeLine := by decide
@[simp] theorem lt_line_23 : 23 < sizeLine := by decide
@[simp] theorem line_24 : 24 ≤ sizeLine := by decide
@[simp] theorem lt_line_24 : 24 < sizeLine := by decide
@[simp] theorem line_25 : 25 ≤ sizeLine := by decide
@[simp] theorem lt_line_25 : 25 < sizeLine := by decide
@[simp] theorem line_26 : 26 ≤ sizeLine := by decide
@[simp] theorem lt_line_26 : 26 < sizeLine := by decide
@[simp] theorem line_27 : 27 ≤ sizeLine := by decide
@[simp] theorem lt_line_27 : 27 < sizeLine := by decide
@[simp] theorem line_28 : 28 ≤ sizeLine := by decide
@[simp] theorem lt_line_28 : 28 < sizeLine := by decide
@[simp] theorem line_29 : 29 ≤ sizeLine := by decide
@[simp] theorem lt_line_29 : 29 < sizeLine := by decide
@[simp] theorem line_30 : 30 ≤ sizeLine := by decide
@[simp] theorem lt_line_30 : 30 < sizeLine := by decide
@[simp] theorem line_31 : 31 ≤ sizeLine := by decide
@[simp] theorem lt_line_31 : 31 < sizeLine := by decide
@[simp] theorem line_32 : 32 ≤ sizeLine := by decide
@[simp] theorem lt_line_32 : 32 < sizeLine := by decide
@[simp] theorem line_33 : 33 ≤ sizeLine := by decide
@[simp] theorem lt_line_33 : 33 < sizeLine := by decide
@[simp] theorem line_34 : 34 ≤ sizeLine := by decide
@[simp] theorem lt_line_34 : 34 < sizeLine := by decide
@[simp] theorem line_35 : 35 ≤ sizeLine := by decide
@[simp] theorem lt_line_35 : 35 < sizeLine := by decide
@[simp] theorem line_36 : 36 ≤ sizeLine := by decide
@[simp] theorem lt_line_36 : 36 < sizeLine := by decide
@[simp] theorem line_37 : 37 ≤ sizeLine := by decide
@[simp] theorem lt_line_37 : 37 < sizeLine := by decide
@[simp] theorem line_38 : 38 ≤ sizeLine := by decide
@[simp] theorem lt_line_38 : 38 < sizeLine := by decide
@[simp] theorem line_39 : 39 ≤ sizeLine := by decide
@[simp] theorem lt_line_39 : 39 < sizeLine := by decide
@[simp] theorem line_40 : 40 ≤ sizeLine := by decide
@[simp] theorem lt_line_40 : 40 < sizeLine := by decide
@[simp] theorem line_41 : 41 ≤ sizeLine := by decide
@[simp] theorem lt_line_41 : 41 < sizeLine := by decide
@[simp] theorem line_42 : 42 ≤ sizeLine := by decide
@[simp] theorem lt_line_42 : 42 < sizeLine := by decide
@[simp] theorem line_43 : 43 ≤ sizeLine := by decide
@[simp] theorem lt_line_43 : 43 < sizeLine := by decide
@[simp] theorem line_44 : 44 ≤ sizeLine := by decide
@[simp] theorem lt_line_44 : 44 < sizeLine := by decide
@[simp] theorem line_45 : 45 ≤ sizeLine := by decide
@[simp] theorem lt_line_45 : 45 < sizeLine := by decide
@[simp] theorem line_46 : 46 ≤ sizeLine := by decide
@[simp] theorem lt_line_46 : 46 < sizeLine := by decide
@[simp] theorem line_47 : 47 ≤ sizeLine := by decide
@[simp] theorem lt_line_47 : 47 < sizeLine := by decide
@[simp] theorem line_48 : 48 ≤ sizeLine := by decide
@[simp] theorem lt_line_48 : 48 < sizeLine := by decide
@[simp] theorem line_49 : 49 ≤ sizeLine := by decide
@[simp] theorem lt_line_49 : 49 < sizeLine := by decide
@[simp] theorem line_50 : 50 ≤ sizeLine := by decide
@[simp] theorem lt_line_50 : 50 < sizeLine := by decide
@[simp] theorem line_51 : 51 ≤ sizeLine := by decide
@[simp] theorem lt_line_51 : 51 < sizeLine := by decide
@[simp] theorem line_52 : 52 ≤ sizeLine := by decide
@[simp] theorem lt_line_52 : 52 < sizeLine := by decide
@[simp] theorem line_53 : 53 ≤ sizeLine := by decide
@[simp] theorem lt_line_53 : 53 < sizeLine := by decide
@[simp] theorem line_54 : 54 ≤ sizeLine := by decide
@[simp] theorem lt_line_54 : 54 < sizeLine := by decide
@[simp] theorem line_55 : 55 ≤ sizeLine := by decide
@[simp] theorem lt_line_55 : 55 < sizeLine := by decide
@[simp] theorem line_56 : 56 ≤ sizeLine := by decide
@[simp] theorem lt_line_56 : 56 < sizeLine := by decide
@[simp] theorem line_57 : 57 ≤ sizeLine := by decide
@[simp] theorem lt_line_57 : 57 < sizeLine := by decide
@[simp] theorem line_58 : 58 ≤ sizeLine := by decide
@[simp] theorem lt_line_58 : 58 < sizeLine := by decide
@[simp] theorem line_59 : 59 ≤ sizeLine := by decide
@[simp] theorem lt_line_59 : 59 < sizeLine := by decide
@[simp] theorem line_60 : 60 ≤ sizeLine := by decide
@[simp] theorem lt_line_60 : 60 < sizeLine := by decide
@[simp] theorem line_61 : 61 ≤ sizeLine := by decide
@[simp] theorem lt_line_61 : 61 < sizeLine := by decide
@[simp] theorem line_62 : 62 ≤ sizeLine := by decide
@[simp] theorem lt_line_62 : 62 < sizeLine := by decide
@[simp] theorem line_63 : 63 ≤ sizeLine := by decide
@[simp] theorem lt_line_63 : 63 < sizeLine := by decide
@[simp] theorem line_64 : 64 ≤ sizeLine := by decide
@[simp] theorem lt_line_64 : 64 < sizeLine := by decide
@[simp] theorem line_65 : 65 ≤ sizeLine := by decide
@[simp] theorem lt_line_65 : 65 < sizeLine := by decide
@[simp] theorem line_66 : 66 ≤ sizeLine := by decide
@[simp] theorem lt_line_66 : 66 < sizeLine := by decide
@[simp] theorem line_67 : 67 ≤ sizeLine := by decide
@[simp] theorem lt_line_67 : 67 < sizeLine := by decide
@[simp] theorem line_68 : 68 ≤ sizeLine := by decide
@[simp] theorem lt_line_68 : 68 < sizeLine := by decide
@[simp] theorem line_69 : 69 ≤ sizeLine := by decide
@[simp] theorem lt_line_69 : 69 < sizeLine := by decide
@[simp] theorem line_70 : 70 ≤ sizeLine := by decide
@[simp] theorem lt_line_70 : 70 < sizeLine := by decide
@[simp] theorem line_71 : 71 ≤ sizeLine := by decide
@[simp] theorem lt_line_71 : 71 < sizeLine := by decide
@[simp] theorem line_72 : 72 ≤ sizeLine := by decide
@[simp] theorem lt_line_72 : 72 < sizeLine := by decide
@[simp] theorem line_73 : 73 ≤ sizeLine := by decide
@[simp] theorem lt_line_73 : 73 < sizeLine := by decide
@[simp] theorem line_74 : 74 ≤ sizeLine := by decide
@[simp] theorem lt_line_74 : 74 < sizeLine := by decide
@[simp] theorem line_75 : 75 ≤ sizeLine := by decide
@[simp] theorem lt_line_75 : 75 < sizeLine := by decide
@[simp] theorem line_76 : 76 ≤ sizeLine := by decide
@[simp] theorem lt_line_76 : 76 < sizeLine := by decide
@[simp] theorem line_77 : 77 ≤ sizeLine := by decide
@[simp] theorem lt_line_77 : 77 < sizeLine := by decide
@[simp] theorem line_78 : 78 ≤ sizeLine := by decide
@[simp] theorem lt_line_78 : 78 < sizeLine := by decide
@[simp] theorem line_79 : 79 ≤ sizeLine := by decide
@[simp] theorem lt_line_79 : 79 < sizeLine := by decide
@[simp] theorem line_80 : 80 ≤ sizeLine := by decide
@[simp] theorem lt_line_80 : 80 < sizeLine := by decide
@[simp] theorem line_81 : 81 ≤ sizeLine := by decide
@[simp] theorem lt_line_81 : 81 < sizeLine := by decide
@[simp] theorem line_82 : 82 ≤ sizeLine := by decide
@[simp] theorem lt_line_82 : 82 < sizeLine := by decide
@[simp] theorem line_83 : 83 ≤ sizeLine := by decide
@[simp] theorem lt_line_83 : 83 < sizeLine := by decide
@[simp] theorem line_84 : 84 ≤ sizeLine := by decide
@[simp] theorem lt_line_84 : 84 < sizeLine := by decide
@[simp] theorem line_85 : 85 ≤ sizeLine := by decide
@[simp] theorem lt_line_85 : 85 < sizeLine := by decide
@[simp] theorem line_86 : 86 ≤ sizeLine := by decide
@[simp] theorem lt_line_86 : 86 < sizeLine := by decide
@[simp] theorem line_87 : 87 ≤ sizeLine := by decide
@[simp] theorem lt_line_87 : 87 < sizeLine := by decide
@[simp] theorem line_88 : 88 ≤ sizeLine := by decide
@[simp] theorem lt_line_88 : 88 < sizeLine := by decide
@[simp] theorem line_89 : 89 ≤ sizeLine := by decide
@[simp] theorem lt_line_89 : 89 < sizeLine := by decide
@[simp] theorem line_90 : 90 ≤ sizeLine := by decide
@[simp] theorem lt_line_90 : 90 < sizeLine := by decide
@[simp] theorem line_91 : 91 ≤ sizeLine := by decide
@[simp] theorem lt_line_91 : 91 < sizeLine := by decide
@[simp] theorem line_92 : 92 ≤ sizeLine := by decide
@[simp] theorem lt_line_92 : 92 < sizeLine := by decide
@[simp] theorem line_93 : 93 ≤ sizeLine := by decide
@[simp] theorem lt_line_93 : 93 < sizeLine := by decide
@[simp] theorem line_94 : 94 ≤ sizeLine := by decide
@[simp] theorem lt_line_94 : 94 < sizeLine := by decide
@[simp] theorem line_95 : 95 ≤ sizeLine := by decide
@[simp] theorem lt_line_95 : 95 < sizeLine := by decide
@[simp] theorem line_96 : 96 ≤ sizeLine := by decide
@[simp] theorem lt_line_96 : 96 < sizeLine := by decide
@[simp] theorem line_97 : 97 ≤ sizeLine := by decide
@[simp] theorem lt_line_97 : 97 < sizeLine := by decide
@[simp] theorem line_98 : 98 ≤ sizeLine := by decide
@[simp] theorem lt_line_98 : 98 < sizeLine := by decide
@[simp] theorem line_99 : 99 ≤ sizeLine := by decide
@[simp] theorem lt_line_99 : 99 < sizeLine := by decide
@[simp] theorem line_100 : 100 ≤ sizeLine := by decide
@[simp] theorem lt_line_100 : 100 < sizeLine := by decide
end SH
namespace SH
open PySem PySem.Spec PyProof.Rows L2 RZ DL
section
variable {W : Wd} {E : DX → Wd → Prop} {Q : RV → Wd → Prop} {s : Strm} {J : Wd}
@[simp high] theorem W_get {l : Nat} : (s.W J)[l + 2]? = J[l]? := (rfl)
@[simp] theorem W_set {l : Nat} {x : MO} : (s.W J).set (l + 2) x = s.W (J.set l x) := (rfl)
@[simp] theorem W_app {K : Wd} : s.W J ++ K = s.W (J ++ K) := (rfl)
@[simp] theorem set_last {a b : MO} {X : Wd} : (J ++ a :: X).set J.length b = J ++ b :: X := by
  rw [List.set_append]
  simp
@[simp] theorem get_last {a : MO} {X : Wd} : (J ++ a :: X)[J.length]? = some a := by simp
@[simp] theorem get_last2 {a c : MO} {X Y : Wd} : (J ++ a :: (X ++ c :: Y))[J.length + (X.length + 1)]? = some c := by
  rw [List.getElem?_append_right (by omega)]
  simp
@[simp] theorem set_last2 {a c d : MO} {X Y : Wd} : (J ++ a :: (X ++ c :: Y)).set (J.length + (X.length + 1)) d = J ++ a :: (X ++ d :: Y) := by
  rw [List.set_append, if_neg (by omega)]
  simp [List.set_append]
theorem ixN_nat {n h : Nat} (hh : h < n) : ixN n (h : Int) = some h := by unfold ixN; rw [if_pos (by omega), if_pos (by omega)]; simp
theorem pickM {E : DX → Wd → Prop} {N : Nat} {xs : List D} (ok : s.ok N) (hN : N < 2 ^ 40) (h0 : 0 < xs.length) (h1 : xs.length < 10000) (Q : RV → Wd → Prop)
    (h : ∀ (x : D) (s' : Strm), x ∈ xs → s'.ok (N + 1) → Q (.d x) (s'.W J)) : wpM (f__law_pick [.r 1, .d (.lst xs)]) (s.W J) Q E := pick ok hN h0 (small_le h1) Q h
end
end SH
namespace SH
open PySem PySem.Spec PyProof.Rows L2 RZ DL
section
variable {W : Wd} {E : DX → Wd → Prop} {Q : RV → Wd → Prop}
@[simp] theorem w_newL_7 {x0 x1 x2 x3 x4 x5 x6 : D} : wpM (newL false [.d x0, .d x1, .d x2, .d x3, .d x4, .d x5, .d x6]) W Q E = Q (.d (.lst [x0, x1, x2, x3, x4, x5, x6])) W := w_newL_f (ds := [x0, x1, x2, x3, x4, x5, x6])
@[simp] theorem w_newL_9 {x0 x1 x2 x3 x4 x5 x6 x7 x8 : D} : wpM (newL false [.d x0, .d x1, .d x2, .d x3, .d x4, .d x5, .d x6, .d x7, .d x8]) W Q E = Q (.d (.lst [x0, x1, x2, x3, x4, x5, x6, x7, x8])) W := w_newL_f (ds := [x0, x1, x2, x3, x4, x5, x6, x7, x8])
@[simp] theorem w_newL_10 {x0 x1 x2 x3 x4 x5 x6 x7 x8 x9 : D} : wpM (newL false [.d x0, .d x1, .d x2, .d x3, .d x4, .d x5, .d x6, .d x7, .d x8, .d x9]) W Q E = Q (.d (.lst [x0, x1, x2, x3, x4, x5, x6, x7, x8, x9])) W := w_newL_f (ds := [x0, x1, x2, x3, x4, x5, x6, x7, x8, x9])
@[simp] theorem w_newL_11 {x0 x1 x2 x3 x4 x5 x6 x7 x8 x9 x10 : D} : wpM (newL false [.d x0, .d x1, .d x2, .d x3, .d x4, .d x5, .d x6, .d x7, .d x8, .d x9, .d x10]) W Q E = Q (.d (.lst [x0, x1, x2, x3, x4, x5, x6, x7, x8, x9, x10])) W := w_newL_f (ds := [x0, x1, x2, x3, x4, x5, x6, x7, x8, x9, x10])
@[simp] theorem w_newL_12 {x0 x1 x2 x3 x4 x5 x6 x7 x8 x9 x10 x11 : D} : wpM (newL false [.d x0, .d x1, .d x2, .d x3, .d x4, .d x5, .d x6, .d x7, .d x8, .d x9, .d x10, .d x11]) W Q E = Q (.d (.lst [x0, x1, x2, x3, x4, x5, x6, x7, x8, x9, x10, x11])) W := w_newL_f (ds := [x0, x1, x2, x3, x4, x5, x6, x7, x8, x9, x10, x11])
@[simp] theorem w_newL_13 {x0 x1 x2 x3 x4 x5 x6 x7 x8 x9 x10 x11 x12 : D} : wpM (newL false [.d x0, .d x1, .d x2, .d x3, .d x4, .d x5, .d x6, .d x7, .d x8, .d x9, .d x10, .d x11, .d x12]) W Q E = Q (.d (.lst [x0, x1, x2, x3, x4, x5, x6, x7, x8, x9, x10, x11, x12])) W := w_newL_f (ds := [x0, x1, x2, x3, x4, x5, x6, x7, x8, x9, x10, x11, x12])
@[simp] theorem w_newL_14 {x0 x1 x2 x3 x4 x5 x6 x7 x8 x9 x10 x11 x12 x13 : D} : wpM (newL false [.d x0, .d x1, .d x2, .d x3, .d x4, .d x5, .d x6, .d x7, .d x8, .d x9, .d x10, .d x11, .d x12, .d x13]) W Q E = Q (.d (.lst [x0, x1, x2, x3, x4, x5, x6, x7, x8, x9, x10, x11, x12, x13])) W := w_newL_f (ds := [x0, x1, x2, x3, x4, x5, x6, x7, x8, x9, x10, x11, x12, x13])
@[simp] theorem w_newL_15 {x0 x1 x2 x3 x4 x5 x6 x7 x8 x9 x10 x11 x12 x13 x14 : D} : wpM (newL false [.d x0, .d x1, .d x2, .d x3, .d x4, .d x5, .d x6, .d x7, .d x8, .d x9, .d x10, .d x11, .d x12, .d x13, .d x14]) W Q E = Q (.d (.lst [x0, x1, x2, x3, x4, x5, x6, x7, x8, x9, x10, x11, x12, x13, x14])) W := w_newL_f (ds := [x0, x1, x2, x3, x4, x5, x6, x7, x8, x9, x10, x11, x12, x13, x14])
@[simp] theorem w_newL_16 {x0 x1 x2 x3 x4 x5 x6 x7 x8 x9 x10 x11 x12 x13 x14 x15 : D} : wpM (newL false [.d x0, .d x1, .d x2, .d x3, .d x4, .d x5, .d x6, .d x7, .d x8, .d x9, .d x10, .d x11, .d x12, .d x13, .d x14, .d x15]) W Q E = Q (.d (.lst [x0, x1, x2, x3, x4, x5, x6, x7, x8, x9, x10, x11, x12, x13, x14, x15])) W := w_newL_f (ds := [x0, x1, x2, x3, x4, x5, x6, x7, x8, x9, x10, x11, x12, x13, x14, x15])
@[simp] theorem w_newL_17 {x0 x1 x2 x3 x4 x5 x6 x7 x8 x9 x10 x11 x12 x13 x14 x15 x16 : D} : wpM (newL false [.d x0, .d x1, .d x2, .d x3, .d x4, .d x5, .d x6, .d x7, .d x8, .d x9, .d x10, .d x11, .d x12, .d x13, .d x14, .d x15, .d x16]) W Q E = Q (.d (.lst [x0, x1, x2, x3, x4, x5, x6, x7, x8, x9, x10, x11, x12, x13, x14, x15, x16])) W := w_newL_f (ds := [x0, x1, x2, x3, x4, x5, x6, x7, x8, x9, x10, x11, x12, x13, x14, x15, x16])
@[simp] theorem w_newL_18 {x0 x1 x2 x3 x4 x5 x6 x7 x8 x9 x10 x11 x12 x13 x14 x15 x16 x17 : D} : wpM (newL false [.d x0, .d x1, .d x2, .d x3, .d x4, .d x5, .d x6, .d x7, .d x8, .d x9, .d x10, .d x11, .d x12, .d x13, .d x14, .d x15, .d x16, .d x17]) W Q E = Q (.d (.lst [x0, x1, x2, x3, x4, x5, x6, x7, x8, x9, x10, x11, x12, x13, x14, x15, x16, x17])) W := w_newL_f (ds := [x0, x1, x2, x3, x4, x5, x6, x7, x8, x9, x10, x11, x12, x13, x14, x15, x16, x17])
@[simp] theorem w_newL_19 {x0 x1 x2 x3 x4 x5 x6 x7 x8 x9 x10 x11 x12 x13 x14 x15 x16 x17 x18 : D} : wpM (newL false [.d x0, .d x1, .d x2, .d x3, .d x4, .d x5, .d x6, .d x7, .d x8, .d x9, .d x10, .d x11, .d x12, .d x13, .d x14, .d x15, .d x16, .d x17, .d x18]) W Q E = Q (.d (.lst [x0, x1, x2, x3, x4, x5, x6, x7, x8, x9, x10, x11, x12, x13, x14, x15, x16, x17, x18])) W := w_newL_f (ds := [x0, x1, x2, x3, x4, x5, x6, x7, x8, x9, x10, x11, x12, x13, x14, x15, x16, x17, x18])
@[simp] theorem w_newL_20 {x0 x1 x2 x3 x4 x5 x6 x7 x8 x9 x10 x11 x12 x13 x14 x15 x16 x17 x18 x19 : D} : wpM (newL false [.d x0, .d x1, .d x2, .d x3, .d x4, .d x5, .d x6, .d x7, .d x8, .d x9, .d x10, .d x11, .d x12, .d x13, .d x14, .d x15, .d x16, .d x17, .d x18, .d x19]) W Q E = Q (.d (.lst [x0, x1, x2, x3, x4, x5, x6, x7, x8, x9, x10, x11, x12, x13, x14, x15, x16, x17, x18, x19])) W := w_newL_f (ds := [x0, x1, x2, x3, x4, x5, x6, x7, x8, x9, x10, x11, x12, x13, x14, x15, x16, x17, x18, x19])
@[simp] theorem w_newL_21 {x0 x1 x2 x3 x4 x5 x6 x7 x8 x9 x10 x11 x12 x13 x14 x15 x16 x17 x18 x19 x20 : D} : wpM (newL false [.d x0, .d x1, .d x2, .d x3, .d x4, .d x5, .d x6, .d x7, .d x8, .d x9, .d x10, .d x11, .d x12, .d x13, .d x14, .d x15, .d x16, .d x17, .d x18, .d x19, .d x20]) W Q E = Q (.d (.lst [x0, x1, x2, x3, x4, x5, x6, x7, x8, x9, x10, x11, x12, x13, x14, x15, x16, x17, x18, x19, x20])) W := w_newL_f (ds := [x0, x1, x2, x3, x4, x5, x6, x7, x8, x9, x10, x11, x12, x13, x14, x15, x16, x17, x18, x19, x20])
@[simp] theorem w_newL_22 {x0 x1 x2 x3 x4 x5 x6 x7 x8 x9 x10 x11 x12 x13 x14 x15 x16 x17 x18 x19 x20 x21 : D} : wpM (newL false [.d x0, .d x1, .d x2, .d x3, .d x4, .d x5, .d x6, .d x7, .d x8, .d x9, .d x10, .d x11, .d x12, .d x13, .d x14, .d x15, .d x16, .d x17, .d x18, .d x19, .d x20, .d x21]) W Q E = Q (.d (.lst [x0, x1, x2, x3, x4, x5, x6, x7, x8, x9, x10, x11, x12, x13, x14, x15, x16, x17, x18, x19, x20, x21])) W := w_newL_f (ds := [x0, x1, x2, x3, x4, x5, x6, x7, x8, x9, x10, x11, x12, x13, x14, x15, x16, x17, x18, x19, x20, x21])
@[simp] theorem w_newL_23 {x0 x1 x2 x3 x4 x5 x6 x7 x8 x9 x10 x11 x12 x13 x14 x15 x16 x17 x18 x19 x20 x21 x22 : D} : wpM (newL false [.d x0, .d x1, .d x2, .d x3, .d x4, .d x5, .d x6, .d x7, .d x8, .d x9, .d x10, .d x11, .d x12, .d x13, .d x14, .d x15, .d x16, .d x17, .d x18, .d x19, .d x20, .d x21, .d x22]) W Q E = Q (.d (.lst [x0, x1, x2, x3, x4, x5, x6, x7, x8, x9, x10, x11, x12, x13, x14, x15, x16, x17, x18, x19, x20, x21, x22])) W := w_newL_f (ds := [x0, x1, x2, x3, x4, x5, x6, x7, x8, x9, x10, x11, x12, x13, x14, x15, x16, x17, x18, x19, x20, x21, x22])
@[simp] theorem w_newL_24 {x0 x1 x2 x3 x4 x5 x6 x7 x8 x9 x10 x11 x12 x13 x14 x15 x16 x17 x18 x19 x20 x21 x22 x23 : D} : wpM (newL false [.d x0, .d x1, .d x2, .d x3, .d x4, .d x5, .d x6, .d x7, .d x8, .d x9, .d x10, .d x11, .d x12, .d x13, .d x14, .d x15, .d x16, .d x17, .d x18, .d x19, .d x20, .d x21, .d x22, .d x23]) W Q E = Q (.d (.lst [x0, x1, x2, x3, x4, x5, x6, x7, x8, x9, x10, x11, x12, x13, x14, x15, x16, x17, x18, x19, x20, x21, x22, x23])) W := w_newL_f (ds := [x0, x1, x2, x3, x4, x5, x6, x7, x8, x9, x10, x11, x12, x13, x14, x15, x16, x17, x18, x19, x20, x21, x22, x23])
@[simp] theorem w_newL_25 {x0 x1 x2 x3 x4 x5 x6 x7 x8 x9 x10 x11 x12 x13 x14 x15 x16 x17 x18 x19 x20 x21 x22 x23 x24 : D} : wpM (newL false [.d x0, .d x1, .d x2, .d x3, .d x4, .d x5, .d x6, .d x7, .d x8, .d x9, .d x10, .d x11, .d x12, .d x13, .d x14, .d x15, .d x16, .d x17, .d x18, .d x19, .d x20, .d x21, .d x22, .d x23, .d x24]) W Q E = Q (.d (.lst [x0, x1, x2, x3, x4, x5, x6, x7, x8, x9, x10, x11, x12, x13, x14, x15, x16, x17, x18, x19, x20, x21, x22, x23, x24])) W := w_newL_f (ds := [x0, x1, x2, x3, x4, x5, x6, x7, x8, x9, x10, x11, x12, x13, x14, x15, x16, x17, x18, x19, x20, x21, x22, x23, x24])
@[simp] theorem w_newL_26 {x0 x1 x2 x3 x4 x5 x6 x7 x8 x9 x10 x11 x12 x13 x14 x15 x16 x17 x18 x19 x20 x21 x22 x23 x24 x25 : D} : wpM (newL false [.d x0, .d x1, .d x2, .d x3, .d x4, .d x5, .d x6, .d x7, .d x8, .d x9, .d x10, .d x11, .d x12, .d x13, .d x14, .d x15, .d x16, .d x17, .d x18, .d x19, .d x20, .d x21, .d x22, .d x23, .d x24, .d x25]) W Q E = Q (.d (.lst [x0, x1, x2, x3, x4, x5, x6, x7, x8, x9, x10, x11, x12, x13, x14, x15, x16, x17, x18, x19, x20, x21, x22, x23, x24, x25])) W := w_newL_f (ds := [x0, x1, x2, x3, x4, x5, x6, x7, x8, x9, x10, x11, x12, x13, x14, x15, x16, x17, x18, x19, x20, x21, x22, x23, x24, x25])
@[simp] theorem w_newL_27 {x0 x1 x2 x3 x4 x5 x6 x7 x8 x9 x10 x11 x12 x13 x14 x15 x16 x17 x18 x19 x20 x21 x22 x23 x24 x25 x26 : D} : wpM (newL false [.d x0, .d x1, .d x2, .d x3, .d x4, .d x5, .d x6, .d x7, .d x8, .d x9, .d x10, .d x11, .d x12, .d x13, .d x14, .d x15, .d x16, .d x17, .d x18, .d x19, .d x20, .d x21, .d x22, .d x23, .d x24, .d x25, .d x26]) W Q E = Q (.d (.lst [x0, x1, x2, x3, x4, x5, x6, x7, x8, x9, x10, x11, x12, x13, x14, x15, x16, x17, x18, x19, x20, x21, x22, x23, x24, x25, x26])) W := w_newL_f (ds := [x0, x1, x2, x3, x4, x5, x6, x7, x8, x9, x10, x11, x12, x13, x14, x15, x16, x17, x18, x19, x20, x21, x22, x23, x24, x25, x26])
@[simp] theorem w_newL_28 {x0 x1 x2 x3 x4 x5 x6 x7 x8 x9 x10 x11 x12 x13 x14 x15 x16 x17 x18 x19 x20 x21 x22 x23 x24 x25 x26 x27 : D} : wpM (newL false [.d x0, .d x1, .d x2, .d x3, .d x4, .d x5, .d x6, .d x7, .d x8, .d x9, .d x10, .d x11, .d x12, .d x13, .d x14, .d x15, .d x16, .d x17, .d x18, .d x19, .d x20, .d x21, .d x22, .d x23, .d x24, .d x25, .d x26, .d x27]) W Q E = Q (.d (.lst [x0, x1, x2, x3, x4, x5, x6, x7, x8, x9, x10, x11, x12, x13, x14, x15, x16, x17, x18, x19, x20, x21, x22, x23, x24, x25, x26, x27])) W := w_newL_f (ds := [x0, x1, x2, x3, x4, x5, x6, x7, x8, x9, x10, x11, x12, x13, x14, x15, x16, x17, x18, x19, x20, x21, x22, x23, x24, x25, x26, x27])
@[simp] theorem w_newL_29 {x0 x1 x2 x3 x4 x5 x6 x7 x8 x9 x10 x11 x12 x13 x14 x15 x16 x17 x18 x19 x20 x21 x22 x23 x24 x25 x26 x27 x28 : D} : wpM (newL false [.d x0, .d x1, .d x2, .d x3, .d x4, .d x5, .d x6, .d x7, .d x8, .d x9, .d x10, .d x11, .d x12, .d x13, .d x14, .d x15, .d x16, .d x17, .d x18, .d x19, .d x20, .d x21, .d x22, .d x23, .d x24, .d x25, .d x26, .d x27, .d x28]) W Q E = Q (.d (.lst [x0, x1, x2, x3, x4, x5, x6, x7, x8, x9, x10, x11, x12, x13, x14, x15, x16, x17, x18, x19, x20, x21, x22, x23, x24, x25, x26, x27, x28])) W := w_newL_f (ds := [x0, x1, x2, x3, x4, x5, x6, x7, x8, x9, x10, x11, x12, x13, x14, x15, x16, x17, x18, x19, x20, x21, x22, x23, x24, x25, x26, x27, x28])
@[simp] theorem w_newL_30 {x0 x1 x2 x3 x4 x5 x6 x7 x8 x9 x10 x11 x12 x13 x14 x15 x16 x17 x18 x19 x20 x21 x22 x23 x24 x25 x26 x27 x28 x29 : D} : wpM (newL false [.d x0, .d x1, .d x2, .d x3, .d x4, .d x5, .d x6, .d x7, .d x8, .d x9, .d x10, .d x11, .d x12, .d x13, .d x14, .d x15, .d x16, .d x17, .d x18, .d x19, .d x20, .d x21, .d x22, .d x23, .d x24, .d x25, .d x26, .d x27, .d x28, .d x29]) W Q E = Q (.d (.lst [x0, x1, x2, x3, x4, x5, x6, x7, x8, x9, x10, x11, x12, x13, x14, x15, x16, x17, x18, x19, x20, x21, x22, x23, x24, x25, x26, x27, x28, x29])) W := w_newL_f (ds := [x0, x1, x2, x3, x4, x5, x6, x7, x8, x9, x10, x11, x12, x13, x14, x15, x16, x17, x18, x19, x20, x21, x22, x23, x24, x25, x26, x27, x28, x29])
@[simp] theorem w_newL_31 {x0 x1 x2 x3 x4 x5 x6 x7 x8 x9 x10 x11 x12 x13 x14 x15 x16 x17 x18 x19 x20 x21 x22 x23 x24 x25 x26 x27 x28 x29 x30 : D} : wpM (newL false [.d x0, .d x1, .d x2, .d x3, .d x4, .d x5, .d x6, .d x7, .d x8, .d x9, .d x10, .d x11, .d x12, .d x13, .d x14, .d x15, .d x16, .d x17, .d x18, .d x19, .d x20, .d x21, .d x22, .d x23, .d x24, .d x25, .d x26, .d x27, .d x28, .d x29, .d x30]) W Q E = Q (.d (.lst [x0, x1, x2, x3, x4, x5, x6, x7, x8, x9, x10, x11, x12, x13, x14, x15, x16, x17, x18, x19, x20, x21, x22, x23, x24, x25, x26, x27, x28, x29, x30])) W := w_newL_f (ds := [x0, x1, x2, x3, x4, x5, x6, x7, x8, x9, x10, x11, x12, x13, x14, x15, x16, x17, x18, x19, x20, x21, x22, x23, x24, x25, x26, x27, x28, x29, x30])
@[simp] theorem w_newL_32 {x0 x1 x2 x3 x4 x5 x6 x7 x8 x9 x10 x11 x12 x13 x14 x15 x16 x17 x18 x19 x20 x21 x22 x23 x24 x25 x26 x27 x28 x29 x30 x31 : D} : wpM (newL false [.d x0, .d x1, .d x2, .d x3, .d x4, .d x5, .d x6, .d x7, .d x8, .d x9, .d x10, .d x11, .d x12, .d x13, .d x14, .d x15, .d x16, .d x17, .d x18, .d x19, .d x20, .d x21, .d x22, .d x23, .d x24, .d x25, .d x26, .d x27, .d x28, .d x29, .d x30, .d x31]) W Q E = Q (.d (.lst [x0, x1, x2, x3, x4, x5, x6, x7, x8, x9, x10, x11, x12, x13, x14, x15, x16, x17, x18, x19, x20, x21, x22, x23, x24, x25, x26, x27, x28, x29, x30, x31])) W := w_newL_f (ds := [x0, x1, x2, x3, x4, x5, x6, x7, x8, x9, x10, x11, x12, x13, x14, x15, x16, x17, x18, x19, x20, x21, x22, x23, x24, x25, x26, x27, x28, x29, x30, x31])
@[simp] theorem w_newL_33 {x0 x1 x2 x3 x4 x5 x6 x7 x8 x9 x10 x11 x12 x13 x14 x15 x16 x17 x18 x19 x20 x21 x22 x23 x24 x25 x26 x27 x28 x29 x30 x31 x32 : D} : wpM (newL false [.d x0, .d x1, .d x2, .d x3, .d x4, .d x5, .d x6, .d x7, .d x8, .d x9, .d x10, .d x11, .d x12, .d x13, .d x14, .d x15, .d x16, .d x17, .d x18, .d x19, .d x20, .d x21, .d x22, .d x23, .d x24, .d x25, .d x26, .d x27, .d x28, .d x29, .d x30, .d x31, .d x32]) W Q E = Q (.d (.lst [x0, x1, x2, x3, x4, x5, x6, x7, x8, x9, x10, x11, x12, x13, x14, x15, x16, x17, x18, x19, x20, x21, x22, x23, x24, x25, x26, x27, x28, x29, x30, x31, x32])) W := w_newL_f (ds := [x0, x1, x2, x3, x4, x5, x6, x7, x8, x9, x10, x11, x12, x13, x14, x15, x16, x17, x18, x19, x20, x21, x22, x23, x24, x25, x26, x27, x28, x29, x30, x31, x32])
@[simp] theorem w_newL_34 {x0 x1 x2 x3 x4 x5 x6 x7 x8 x9 x10 x11 x12 x13 x14 x15 x16 x17 x18 x19 x20 x21 x22 x23 x24 x25 x26 x27 x28 x29 x30 x31 x32 x33 : D} : wpM (newL false [.d x0, .d x1, .d x2, .d x3, .d x4, .d x5, .d x6, .d x7, .d x8, .d x9, .d x10, .d x11, .d x12, .d x13, .d x14, .d x15, .d x16, .d x17, .d x18, .d x19, .d x20, .d x21, .d x22, .d x23, .d x24, .d x25, .d x26, .d x27, .d x28, .d x29, .d x30, .d x31, .d x32, .d x33]) W Q E = Q (.d (.lst [x0, x1, x2, x3, x4, x5, x6, x7, x8, x9, x10, x11, x12, x13, x14, x15, x16, x17, x18, x19, x20, x21, x22, x23, x24, x25, x26, x27, x28, x29, x30, x31, x32, x33])) W := w_newL_f (ds := [x0, x1, x2, x3, x4, x5, x6, x7, x8, x9, x10, x11, x12, x13, x14, x15, x16, x17, x18, x19, x20, x21, x22, x23, x24, x25, x26, x27, x28, x29, x30, x31, x32, x33])
@[simp] theorem w_newL_35 {x0 x1 x2 x3 x4 x5 x6 x7 x8 x9 x10 x11 x12 x13 x14 x15 x16 x17 x18 x19 x20 x21 x22 x23 x24 x25 x26 x27 x28 x29 x30 x31 x32 x33 x34 : D} : wpM (newL false [.d x0, .d x1, .d x2, .d x3, .d x4, .d x5, .d x6, .d x7, .d x8, .d x9, .d x10, .d x11, .d x12, .d x13, .d x14, .d x15, .d x16, .d x17, .d x18, .d x19, .d x20, .d x21, .d x22, .d x23, .d x24, .d x25, .d x26, .d x27, .d x28, .d x29, .d x30, .d x31, .d x32, .d x33, .d x34]) W Q E = Q (.d (.lst [x0, x1, x2, x3, x4, x5, x6, x7, x8, x9, x10, x11, x12, x13, x14, x15, x16, x17, x18, x19, x20, x21, x22, x23, x24, x25, x26, x27, x28, x29, x30, x31, x32, x33, x34])) W := w_newL_f (ds := [x0, x1, x2, x3, x4, x5, x6, x7, x8, x9, x10, x11, x12, x13, x14, x15, x16, x17, x18, x19, x20, x21, x22, x23, x24, x25, x26, x27, x28, x29, x30, x31, x32, x33, x34])
@[simp] theorem w_newL_36 {x0 x1 x2 x3 x4 x5 x6 x7 x8 x9 x10 x11 x12 x13 x14 x15 x16 x17 x18 x19 x20 x21 x22 x23 x24 x25 x26 x27 x28 x29 x30 x31 x32 x33 x34 x35 : D} : wpM (newL false [.d x0, .d x1, .d x2, .d x3, .d x4, .d x5, .d x6, .d x7, .d x8, .d x9, .d x10, .d x11, .d x12, .d x13, .d x14, .d x15, .d x16, .d x17, .d x18, .d x19, .d x20, .d x21, .d x22, .d x23, .d x24, .d x25, .d x26, .d x27, .d x28, .d x29, .d x30, .d x31, .d x32, .d x33, .d x34, .d x35]) W Q E = Q (.d (.lst [x0, x1, x2, x3, x4, x5, x6, x7, x8, x9, x10, x11, x12, x13, x14, x15, x16, x17, x18, x19, x20, x21, x22, x23, x24, x25, x26, x27, x28, x29, x30, x31, x32, x33, x34, x35])) W := w_newL_f (ds := [x0, x1, x2, x3, x4, x5, x6, x7, x8, x9, x10, x11, x12, x13, x14, x15, x16, x17, x18, x19, x20, x21, x22, x23, x24, x25, x26, x27, x28, x29, x30, x31, x32, x33, x34, x35])
@[simp] theorem w_newL_37 {x0 x1 x2 x3 x4 x5 x6 x7 x8 x9 x10 x11 x12 x13 x14 x15 x16 x17 x18 x19 x20 x21 x22 x23 x24 x25 x26 x27 x28 x29 x30 x31 x32 x33 x34 x35 x36 : D} : wpM (newL false [.d x0, .d x1, .d x2, .d x3, .d x4, .d x5, .d x6, .d x7, .d x8, .d x9, .d x10, .d x11, .d x12, .d x13, .d x14, .d x15, .d x16, .d x17, .d x18, .d x19, .d x20, .d x21, .d x22, .d x23, .d x24, .d x25, .d x26, .d x27, .d x28, .d x29, .d x30, .d x31, .d x32, .d x33, .d x34, .d x35, .d x36]) W Q E = Q (.d (.lst [x0, x1, x2, x3, x4, x5, x6, x7, x8, x9, x10, x11, x12, x13, x14, x15, x16, x17, x18, x19, x20, x21, x22, x23, x24, x25, x26, x27, x28, x29, x30, x31, x32, x33, x34, x35, x36])) W := w_newL_f (ds := [x0, x1, x2, x3, x4, x5, x6, x7, x8, x9, x10, x11, x12, x13, x14, x15, x16, x17, x18, x19, x20, x21, x22, x23, x24, x25, x26, x27, x28, x29, x30, x31, x32, x33, x34, x35, x36])
@[simp] theorem w_newL_38 {x0 x1 x2 x3 x4 x5 x6 x7 x8 x9 x10 x11 x12 x13 x14 x15 x16 x17 x18 x19 x20 x21 x22 x23 x24 x25 x26 x27 x28 x29 x30 x31 x32 x33 x34 x35 x36 x37 : D} : wpM (newL false [.d x0, .d x1, .d x2, .d x3, .d x4, .d x5, .d x6, .d x7, .d x8, .d x9, .d x10, .d x11, .d x12, .d x13, .d x14, .d x15, .d x16, .d x17, .d x18, .d x19, .d x20, .d x21, .d x22, .d x23, .d x24, .d x25, .d x26, .d x27, .d x28, .d x29, .d x30, .d x31, .d x32, .d x33, .d x34, .d x35, .d x36, .d x37]) W Q E = Q (.d (.lst [x0, x1, x2, x3, x4, x5, x6, x7, x8, x9, x10, x11, x12, x13, x14, x15, x16, x17, x18, x19, x20, x21, x22, x23, x24, x25, x26, x27, x28, x29, x30, x31, x32, x33, x34, x35, x36, x37])) W := w_newL_f (ds := [x0, x1, x2, x3, x4, x5, x6, x7, x8, x9, x10, x11, x12, x13, x14, x15, x16, x17, x18, x19, x20, x21, x22, x23, x24, x25, x26, x27, x28, x29, x30, x31, x32, x33, x34, x35, x36, x37])
@[simp] theorem w_newL_39 {x0 x1 x2 x3 x4 x5 x6 x7 x8 x9 x10 x11 x12 x13 x14 x15 x16 x17 x18 x19 x20 x21 x22 x23 x24 x25 x26 x27 x28 x29 x30 x31 x32 x33 x34 x35 x36 x37 x38 : D} : wpM (newL false [.d x0, .d x1, .d x2, .d x3, .d x4, .d x5, .d x6, .d x7, .d x8, .d x9, .d x10, .d x11, .d x12, .d x13, .d x14, .d x15, .d x16, .d x17, .d x18, .d x19, .d x20, .d x21, .d x22, .d x23, .d x24, .d x25, .d x26, .d x27, .d x28, .d x29, .d x30, .d x31, .d x32, .d x33, .d x34, .d x35, .d x36, .d x37, .d x38]) W Q E = Q (.d (.lst [x0, x1, x2, x3, x4, x5, x6, x7, x8, x9, x10, x11, x12, x13, x14, x15, x16, x17, x18, x19, x20, x21, x22, x23, x24, x25, x26, x27, x28, x29, x30, x31, x32, x33, x34, x35, x36, x37, x38])) W := w_newL_f (ds := [x0, x1, x2, x3, x4, x5, x6, x7, x8, x9, x10, x11, x12, x13, x14, x15, x16, x17, x18, x19, x20, x21, x22, x23, x24, x25, x26, x27, x28, x29, x30, x31, x32, x33, x34, x35, x36, x37, x38])
@[simp] theorem w_newL_40 {x0 x1 x2 x3 x4 x5 x6 x7 x8 x9 x10 x11 x12 x13 x14 x15 x16 x17 x18 x19 x20 x21 x22 x23 x24 x25 x26 x27 x28 x29 x30 x31 x32 x33 x34 x35 x36 x37 x38 x39 : D} : wpM (newL false [.d x0, .d x1, .d x2, .d x3, .d x4, .d x5, .d x6, .d x7, .d x8, .d x9, .d x10, .d x11, .d x12, .d x13, .d x14, .d x15, .d x16, .d x17, .d x18, .d x19, .d x20, .d x21, .d x22, .d x23, .d x24, .d x25, .d x26, .d x27, .d x28, .d x29, .d x30, .d x31, .d x32, .d x33, .d x34, .d x35, .d x36, .d x37, .d x38, .d x39]) W Q E = Q (.d (.lst [x0, x1, x2, x3, x4, x5, x6, x7, x8, x9, x10, x11, x12, x13, x14, x15, x16, x17, x18, x19, x20, x21, x22, x23, x24, x25, x26, x27, x28, x29, x30, x31, x32, x33, x34, x35, x36, x37, x38, x39])) W := w_newL_f (ds := [x0, x1, x2, x3, x4, x5, x6, x7, x8, x9, x10, x11, x12, x13, x14, x15, x16, x17, x18, x19, x20, x21, x22, x23, x24, x25, x26, x27, x28, x29, x30, x31, x32, x33, x34, x35, x36, x37, x38, x39])
@[simp] theorem w_newT_6 {x0 x1 x2 x3 x4 x5 : D} : wpM (newT [.d x0, .d x1, .d x2, .d x3, .d x4, .d x5]) W Q E = Q (.d (.tup [x0, x1, x2, x3, x4, x5])) W := w_newT (ds := [x0, x1, x2, x3, x4, x5])
@[simp] theorem w_newT_7 {x0 x1 x2 x3 x4 x5 x6 : D} : wpM (newT [.d x0, .d x1, .d x2, .d x3, .d x4, .d x5, .d x6]) W Q E = Q (.d (.tup [x0, x1, x2, x3, x4, x5, x6])) W := w_newT (ds := [x0, x1, x2, x3, x4, x5, x6])
@[simp] theorem w_newT_8 {x0 x1 x2 x3 x4 x5 x6 x7 : D} : wpM (newT [.d x0, .d x1, .d x2, .d x3, .d x4, .d x5, .d x6, .d x7]) W Q E = Q (.d (.tup [x0, x1, x2, x3, x4, x5, x6, x7])) W := w_newT (ds := [x0, x1, x2, x3, x4, x5, x6, x7])
@[simp] theorem w_newT_9 {x0 x1 x2 x3 x4 x5 x6 x7 x8 : D} : wpM (newT [.d x0, .d x1, .d x2, .d x3, .d x4, .d x5, .d x6, .d x7, .d x8]) W Q E = Q (.d (.tup [x0, x1, x2, x3, x4, x5, x6, x7, x8])) W := w_newT (ds := [x0, x1, x2, x3, x4, x5, x6, x7, x8])
@[simp] theorem w_newT_10 {x0 x1 x2 x3 x4 x5 x6 x7 x8 x9 : D} : wpM (newT [.d x0, .d x1, .d x2, .d x3, .d x4, .d x5, .d x6, .d x7, .d x8, .d x9]) W Q E = Q (.d (.tup [x0, x1, x2, x3, x4, x5, x6, x7, x8, x9])) W := w_newT (ds := [x0, x1, x2, x3, x4, x5, x6, x7, x8, x9])
@[simp] theorem w_newT_11 {x0 x1 x2 x3 x4 x5 x6 x7 x8 x9 x10 : D} : wpM (newT [.d x0, .d x1, .d x2, .d x3, .d x4, .d x5, .d x6, .d x7, .d x8, .d x9, .d x10]) W Q E = Q (.d (.tup [x0, x1, x2, x3, x4, x5, x6, x7, x8, x9, x10])) W := w_newT (ds := [x0, x1, x2, x3, x4, x5, x6, x7, x8, x9, x10])
@[simp] theorem w_newT_12 {x0 x1 x2 x3 x4 x5 x6 x7 x8 x9 x10 x11 : D} : wpM (newT [.d x0, .d x1, .d x2, .d x3, .d x4, .d x5, .d x6, .d x7, .d x8, .d x9, .d x10, .d x11]) W Q E = Q (.d (.tup [x0, x1, x2, x3, x4, x5, x6, x7, x8, x9, x10, x11])) W := w_newT (ds := [x0, x1, x2, x3, x4, x5, x6, x7, x8, x9, x10, x11])
@[simp] theorem w_newT_13 {x0 x1 x2 x3 x4 x5 x6 x7 x8 x9 x10 x11 x12 : D} : wpM (newT [.d x0, .d x1, .d x2, .d x3, .d x4, .d x5, .d x6, .d x7, .d x8, .d x9, .d x10, .d x11, .d x12]) W Q E = Q (.d (.tup [x0, x1, x2, x3, x4, x5, x6, x7, x8, x9, x10, x11, x12])) W := w_newT (ds := [x0, x1, x2, x3, x4, x5, x6, x7, x8, x9, x10, x11, x12])
@[simp] theorem w_newT_14 {x0 x1 x2 x3 x4 x5 x6 x7 x8 x9 x10 x11 x12 x13 : D} : wpM (newT [.d x0, .d x1, .d x2, .d x3, .d x4, .d x5, .d x6, .d x7, .d x8, .d x9, .d x10, .d x11, .d x12, .d x13]) W Q E = Q (.d (.tup [x0, x1, x2, x3, x4, x5, x6, x7, x8, x9, x10, x11, x12, x13])) W := w_newT (ds := [x0, x1, x2, x3, x4, x5, x6, x7, x8, x9, x10, x11, x12, x13])
@[simp] theorem w_newT_15 {x0 x1 x2 x3 x4 x5 x6 x7 x8 x9 x10 x11 x12 x13 x14 : D} : wpM (newT [.d x0, .d x1, .d x2, .d x3, .d x4, .d x5, .d x6, .d x7, .d x8, .d x9, .d x10, .d x11, .d x12, .d x13, .d x14]) W Q E = Q (.d (.tup [x0, x1, x2, x3, x4, x5, x6, x7, x8, x9, x10, x11, x12, x13, x14])) W := w_newT (ds := [x0, x1, x2, x3, x4, x5, x6, x7, x8, x9, x10, x11, x12, x13, x14])
end
end SH
namespace SH
open PySem PySem.Spec PyProof.Rows L2 RZ DL
section
variable {E : DX → Wd → Prop} {Q : RV → Wd → Prop} {s : Strm} {J : Wd} {N : Nat} {δ : DL.Env} {T : RV → DL.Env → M DL.Env} {Ta : DL.Env → M Bool} {F : DL.Env → M RV}
/-- a comprehension whose items draw -/
theorem lc_draw {mk : Bool} (ds0 : List D) (c : Nat) (Rr : Nat → D → Prop) (ok : s.ok N) (hz : ds0.length < sizeLine)
    (step : ∀ (i : Nat) (d : D) (s1 : Strm), ds0[i]? = some d → s1.ok (N + c * i) → wpM (T (.d d) δ) (s1.W J) (fun δ1 W1 => wpM (F δ1) W1 (fun v W3 => ∃ (x : D) (s2 : Strm), v = .d x ∧ Rr i x ∧ W3 = s2.W J ∧ s2.ok (N + c * (i + 1))) fun _ _ => False) fun _ _ => False)
    (h : ∀ (xs : List D) (s' : Strm), xs.length = ds0.length → (∀ (i : Nat) (x : D), xs[i]? = some x → Rr i x) → s'.ok (N + c * ds0.length) → wpM (newL mk (xs.map RV.d)) (s'.W J) Q fun _ _ => False) :
    wpM (lcF mk T evYes F δ ds0) (s.W J) Q E := by
  refine w_noEr ?_
  refine goLc_inv (P := fun i acc W' => ∃ (xs : List D) (s' : Strm), acc = xs.map RV.d ∧ xs.length = i ∧ (∀ (j : Nat) (x : D), xs[j]? = some x → Rr j x) ∧ W' = s'.W J ∧ s'.ok (N + c * i)) ds0 hz (fun i d acc W' hd hp => ?_) ds0 0 [] (s.W J) rfl (Nat.zero_le _) (Nat.le_refl _) ⟨[], s, rfl, rfl, fun j x hx => by simp at hx, rfl, ok⟩ fun acc W' _ hp => ?_
  · obtain ⟨xs, s', rfl, hl, hx, rfl, ok'⟩ := hp
    refine wpM_and (step i d s' hd ok') fun δ1 W1 h1 => ?_
    show wpM (evYes δ1) W1 _ _
    refine (w_ret (a := true)).mpr ?_
    rw [if_pos rfl]
    refine wpM_and h1 fun v W3 h3 => ?_
    obtain ⟨x, s2, rfl, hr, rfl, ok2⟩ := h3
    refine ⟨xs ++ [x], s2, by simp, by simp [hl], fun j y hy => ?_, rfl, ok2⟩
    by_cases hj : j < xs.length
    · rw [List.getElem?_append_left hj] at hy
      exact hx j y hy
    · rw [List.getElem?_append_right (by omega)] at hy
      have : j = i := by
        have := (List.getElem?_eq_some_iff.mp hy).1
        simp at this
        omega
      subst this
      rw [hl, Nat.sub_self] at hy
      cases hy
      exact hr
  · obtain ⟨xs, s', rfl, hl, hx, rfl, ok'⟩ := hp
    exact h xs s' hl hx ok'
/-- a comprehension whose test draws -/
theorem lc_drawF (ds0 : List D) (c : Nat) (f : D → D) (ok : s.ok N) (hz : ds0.length < sizeLine)
    (step : ∀ (i : Nat) (d : D) (s1 : Strm), ds0[i]? = some d → s1.ok (N + c * i) → wpM (T (.d d) δ) (s1.W J) (fun δ1 W1 => wpM (Ta δ1) W1 (fun b W2 => ∃ s2 : Strm, W2 = s2.W J ∧ s2.ok (N + c * (i + 1)) ∧ (b = true → wpM (F δ1) W2 (fun v W3 => v = .d (f d) ∧ W3 = W2) fun _ _ => False)) fun _ _ => False) fun _ _ => False)
    (h : ∀ (xs : List D) (s' : Strm), xs.Sublist ds0 → s'.ok (N + c * ds0.length) → Q (.d (.lst (xs.map f))) (s'.W J)) :
    wpM (lcF false T Ta F δ ds0) (s.W J) Q E := by
  refine w_noEr ?_
  refine goLc_inv (P := fun i acc W' => ∃ (xs : List D) (s' : Strm), acc = (xs.map f).map RV.d ∧ xs.Sublist (ds0.take i) ∧ W' = s'.W J ∧ s'.ok (N + c * i)) ds0 hz (fun i d acc W' hd hp => ?_) ds0 0 [] (s.W J) rfl (Nat.zero_le _) (Nat.le_refl _) ⟨[], s, rfl, List.nil_sublist _, rfl, ok⟩ fun acc W' _ hp => ?_
  · obtain ⟨xs, s', rfl, hl, rfl, ok'⟩ := hp
    refine wpM_and (step i d s' hd ok') fun δ1 W1 h1 => wpM_and h1 fun b W2 h2 => ?_
    obtain ⟨s2, rfl, ok2, h3⟩ := h2
    have et : ds0.take (i + 1) = ds0.take i ++ [d] := by rw [List.take_add_one, hd]; rfl
    cases b with
    | true =>
      rw [if_pos rfl]
      refine wpM_and (h3 rfl) fun v W3 h5 => ?_
      obtain ⟨rfl, rfl⟩ := h5
      exact ⟨xs ++ [d], s2, by simp, by rw [et]; exact hl.append (List.Sublist.refl _), rfl, ok2⟩
    | false =>
      rw [if_neg (by decide)]
      exact ⟨xs, s2, rfl, by rw [et]; exact hl.trans (List.sublist_append_left _ _), rfl, ok2⟩
  · obtain ⟨xs, s', rfl, hl, rfl, ok'⟩ := hp
    rw [w_newL_f]
    rw [List.take_length] at hl
    exact h xs s' hl ok'
end
end SH
namespace SH
open PySem PySem.Spec PyProof.Rows L2 RZ DL
theorem cutL_take {α : Type} (l : List α) (n : Nat) : cutL l none (some (n : Int)) = l.take n := by
  unfold cutL
  rw [HT.sIx_none, show HT.sIx l.length l.length (some (n : Int)) = min n l.length from HT.sIx_nat _ _ _]
  by_cases h : n ≤ l.length
  · rw [Nat.min_eq_left h]; simp
  · rw [Nat.min_eq_right (by omega), List.take_of_length_le (by simp), List.take_of_length_le (by omega)]; simp
theorem cutL_drop {α : Type} (l : List α) (n : Nat) : cutL l (some (n : Int)) none = l.drop n := by
  unfold cutL
  rw [HT.sIx_none, show HT.sIx l.length 0 (some (n : Int)) = min n l.length from HT.sIx_nat _ _ _]
  by_cases h : n ≤ l.length
  · rw [Nat.min_eq_left h, List.take_of_length_le (by simp)]
  · rw [Nat.min_eq_right (by omega), List.drop_of_length_le (by omega), List.drop_of_length_le (by omega)]; simp
theorem cutL_drop1 {α : Type} (l : List α) (n : Nat) : cutL l (some ((n : Int) + 1)) none = l.drop (n + 1) := cutL_drop l (n + 1)
theorem cutL_init {α : Type} (l : List α) : cutL l none (some (-1)) = l.dropLast := by
  unfold cutL
  have : HT.sIx l.length l.length (some (-1)) = l.length - 1 := by
    unfold HT.sIx
    simp
    omega
  rw [HT.sIx_none, this, List.dropLast_eq_take]
  simp
theorem char_lt (c : Char) : c.toNat < 1114112 := by
  have h : c.val.toNat < 0xd800 ∨ (0xdfff < c.val.toNat ∧ c.val.toNat < 0x110000) := c.valid
  have e : c.toNat = c.val.toNat := rfl
  omega
theorem ofString_ok (z : String) : PyData.strOk (PySem.Str.ofString z) = true := by
  rw [PySem.Str.ofString_eq_toList]
  unfold PyData.strOk
  simp
  intro c _
  exact char_lt c
end SH
set_option Elab.async false
set_option linter.all false
set_option maxRecDepth 100000
set_option maxHeartbeats 4000000
set_option autoImplicit false
/-! MY: comprehensions over lists that may change later. -/
namespace SH
open PySem PySem.Spec PyProof.Rows L2 RZ DL
section
variable {W : Wd} {E : DX → Wd → Prop} {Q : RV → Wd → Prop} {δ : DL.Env} {T : RV → DL.Env → M DL.Env} {Ta : DL.Env → M Bool} {F : DL.Env → M RV}
theorem goLcP_pure {α : Type} {l : Nat} {ys : List D} {mk : Bool} (g f : α → D) (c : α → Bool) (hW : IsAt l ys W) : ∀ (xs : List α) (acc : List RV), acc.length + xs.length < sizeLine →
    (∀ x ∈ xs, wpM (T (.d (g x)) δ) W (fun δ1 W1 => wpM (Ta δ1) W1 (fun b W2 => b = c x ∧ (b = true → wpM (F δ1) W2 (fun v W3 => v = .d (f x) ∧ W3 = W) fun _ _ => False) ∧ (b = false → W2 = W)) fun _ _ => False) fun _ _ => False) →
    wpM (newL mk (acc ++ ((xs.filter c).map f).map RV.d)) W Q E → wpM (goLcP l ys mk T Ta F δ (xs.map g) acc) W Q E
  | [], acc, _, _, h => by
    rw [List.map_nil, goLcP, w_bind, w_stays]
    simp at h
    exact ⟨hW, h⟩
  | x :: xs, acc, hz, step, h => by
    simp at hz
    rw [List.map_cons, goLcP]
    refine wpM_bind.mpr ((w_stays (Q := _)).mpr ⟨hW, wpM_bind.mpr ?_⟩)
    refine wpM_mono (step x (by simp)) (fun δ1 W1 h1 => ?_) fun _ _ z => z.elim
    refine wpM_bind.mpr ?_
    refine wpM_mono h1 (fun b W2 h2 => ?_) fun _ _ z => z.elim
    obtain ⟨rfl, h3, h4⟩ := h2
    cases e : c x with
    | true =>
      rw [if_pos rfl]
      refine wpM_bind.mpr ?_
      refine wpM_mono (h3 e) (fun v W3 h5 => ?_) fun _ _ z => z.elim
      rw [h5.1, h5.2]
      refine wpM_bind.mpr ?_
      rw [w_guard]
      refine ⟨by omega, goLcP_pure g f c hW xs _ (by simp; omega) (fun y hy => step y (by simp [hy])) ?_⟩
      simpa [List.filter_cons, e] using h
    | false =>
      rw [if_neg (by decide), h4 e]
      exact goLcP_pure g f c hW xs _ (by omega) (fun y hy => step y (by simp [hy])) (by simpa [List.filter_cons, e] using h)
theorem lcP_eq {α : Type} {l : Nat} {ys : List D} (xs : List α) (g f : α → D) (c : α → Bool) (hW : IsAt l ys W) (hz : xs.length < sizeLine)
    (step : ∀ x ∈ xs, wpM (T (.d (g x)) δ) W (fun δ1 W1 => wpM (Ta δ1) W1 (fun b W2 => b = c x ∧ (b = true → wpM (F δ1) W2 (fun v W3 => v = .d (f x) ∧ W3 = W) fun _ _ => False) ∧ (b = false → W2 = W)) fun _ _ => False) fun _ _ => False) :
    wpM (lcFP false T Ta F δ (l, ys, xs.map g)) W Q E = Q (.d (.lst ((xs.filter c).map f))) W := by
  refine pu_by fun Q E hq => w_noEr ?_
  refine goLcP_pure g f c hW xs [] (by simpa using hz) step ?_
  rw [List.nil_append, w_newL_f]
  exact hq
/-- a new list that may change -/
theorem lcP_mapT {α : Type} {l : Nat} {ys : List D} (xs : List α) (g f : α → D) (hW : IsAt l ys W) (hz : xs.length < sizeLine)
    (step : ∀ x ∈ xs, wpM (T (.d (g x)) δ) W (fun δ1 W1 => wpM (F δ1) W1 (fun v W3 => v = .d (f x) ∧ W3 = W) fun _ _ => False) fun _ _ => False) :
    wpM (lcFP true T evYes F δ (l, ys, xs.map g)) W Q E = Q (.r W.length) (W ++ [.lst ((xs.map f).map RV.d)]) := by
  refine pu_by fun Q E hq => w_noEr ?_
  refine goLcP_pure g f (fun _ => true) hW xs [] (by simpa using hz) (fun x hx => wpM_and (step x hx) fun δ1 W1 h1 => ⟨rfl, fun _ => h1, fun z => Bool.noConfusion z⟩) ?_
  rw [List.filter_eq_self.mpr fun _ _ => rfl, List.nil_append, w_newL_t]
  exact hq
/-- over a list that never changes -/
theorem lc_mapT {α : Type} (xs : List α) (g f : α → D) (hz : xs.length < sizeLine)
    (step : ∀ x ∈ xs, wpM (T (.d (g x)) δ) W (fun δ1 W1 => wpM (F δ1) W1 (fun v W3 => v = .d (f x) ∧ W3 = W) fun _ _ => False) fun _ _ => False) :
    wpM (lcF true T evYes F δ (xs.map g)) W Q E = Q (.r W.length) (W ++ [.lst ((xs.map f).map RV.d)]) := by
  refine pu_by fun Q E hq => w_noEr ?_
  refine goLc_inv (P := fun i acc W' => acc = (((xs.take i).map f).map RV.d) ∧ W' = W) (xs.map g) (by simpa using hz) (fun i d acc W' hd hp => ?_) (xs.map g) 0 [] W rfl (Nat.zero_le _) (Nat.le_refl _) ⟨by simp, rfl⟩ fun acc W' _ hp => ?_
  · obtain ⟨rfl, rfl⟩ := hp
    rw [List.getElem?_map] at hd
    cases hx : xs[i]? with
    | none => rw [hx] at hd; cases hd
    | some x =>
      rw [hx] at hd
      cases hd
      refine wpM_and (step x (List.mem_of_getElem? hx)) fun δ1 W1 h1 => ?_
      rw [List.take_add_one, hx]
      refine wpM_and (show wpM (evYes δ1) W1 (fun b W2 => b = true ∧ W2 = W1) _ from ⟨rfl, rfl⟩) fun b W2 hb => ?_
      obtain ⟨rfl, rfl⟩ := hb
      rw [if_pos rfl]
      refine wpM_and h1 fun v W3 h5 => ?_
      obtain ⟨rfl, rfl⟩ := h5
      simp
  · obtain ⟨rfl, rfl⟩ := hp
    rw [w_newL_t, List.length_map, List.take_length]
    exact hq
end
end SH
set_option Elab.async false
set_option linter.all false
set_option maxRecDepth 100000
set_option maxHeartbeats 4000000
/-! SBM: what the shared defs of the laws that refuse do: the names of errors, drawn orders. -/
namespace SH
open PySem PySem.Spec PyProof.Rows L2 RZ DL
noncomputable section
variable {W : Wd} {E : DX → Wd → Prop} {Q : RV → Wd → Prop} {δ : DL.Env}
def isXF (x : Str) (C a dd : Addr) (y : Str) (u : RV) : M RV := match u with
  | .d (.exc x' C' a' dd' _) => (M.guard (x' = x ∧ C' = C ∧ a' = a ∧ dd' = dd)).bind fun _ => M.ret (.d (.bl (x == y)))
  | _ => M.fail
@[simp] theorem w_isX {x y : Str} {C a dd : Addr} {F : DL.Env → M RV} : wpM (evIsX x C a dd y F δ) W Q E = wpM (F δ) W (kB (isXF x C a dd y) Q E) E := propext wpM_bind
@[simp] theorem w_isXF {x y : Str} {C a dd : Addr} {fs : List (Str × D)} : wpM (isXF x C a dd y (.d (.exc x C a dd fs))) W Q E = Q (.d (.bl (x == y))) W := by
  show wpM ((M.guard _).bind _) W Q E = _
  rw [w_bind, w_guard]
  simp
def fldXF (x : Str) (C a dd : Addr) (f : Str) (u : RV) : M RV := match u with
  | .d (.exc x' C' a' dd' fs) => (M.guard (x' = x ∧ C' = C ∧ a' = a ∧ dd' = dd)).bind fun _ => M.opt ((fs.lookup f).map RV.d)
  | _ => M.fail
@[simp] theorem w_fldX {x f : Str} {C a dd : Addr} {F : DL.Env → M RV} : wpM (evFldX x C a dd f F δ) W Q E = wpM (F δ) W (kB (fldXF x C a dd f) Q E) E := propext wpM_bind
@[simp] theorem w_fldXF {x f : Str} {C a dd : Addr} {fs : List (Str × D)} : wpM (fldXF x C a dd f (.d (.exc x C a dd fs))) W Q E = wpM (M.opt ((fs.lookup f).map RV.d)) W Q E := by
  show wpM ((M.guard _).bind _) W Q E = _
  rw [w_bind, w_guard]
  simp
@[simp] theorem w_tupB {n : Nat} {F : List RV → DL.Env → M DL.Env} {xs : List D} {QG : DL.Env → Wd → Prop} : wpM (gtTupB n F (.d (.tup xs)) δ) W QG E = (xs.length = n ∧ wpM (F (xs.map RV.d) δ) W QG E) := by
  unfold gtTupB
  rw [w_bind, w_look]
  simp only [seqOf_t, lookK_some, kB_ap]
  rw [w_bind, w_guard]
  simp
def iterB (u : RV) : M (List D) := (toD u).bind itemsB
@[simp] theorem w_iterB {F : DL.Env → M RV} {QD : List D → Wd → Prop} : wpM (evIterB F δ) W QD E = wpM (F δ) W (kB iterB QD E) E := propext wpM_bind
@[simp] theorem iterB_l {xs : List D} : iterB (.d (.lst xs)) = M.ret xs := rfl
def thingsX (y : Str) : List (Bool × Str) := [(y == "BadCore", "core"), (y == "BadInput", "input"), (y == "BadSigns", "signs"), (y == "BadMany", "many"), (y == "BadLevels", "levels"), (y == "BadSteps", "steps"), (y == "BadOpens", "opens"), (y == "BadCloses", "closes"), (y == "BadEnds", "ends"), (y == "BadLength", "length"), (y == "BadEquation", "equation"), (y == "BadLevel", "level"), (y == "BadRegisters", "registers"), (y == "BadKey", "key"), (y == "BadRow", "row"), (y == "BadInner", "inner"), (y == "BadBy", "by"), (y == "BadSpace", "space"), (y == "BadSecond", "second"), (y == "BadSize", "size"), (y == "BadPlace", "place")]
def othersX (y : Str) : List (Bool × Str) := [(y == "BadRows", "rows"), (y == "TooMany", "too many")]
def pX (p : Bool × Str) : D := .tup [.bl p.1, .str p.2]
theorem bnamed_word {y w : Str} {C a dd : Addr} {x : D} (h1 : (thingsX y).filter (·.1) = [(true, w)]) (h2 : (othersX y).filter (·.1) = []) (h3 : w ≠ "rows") (h4 : w ≠ "too many")
    (h : Q (.d (.tup [.str w, x])) W) : wpM (f__law_bnamed y C a dd [.d (.exc y C a dd [("thing", x)])]) W Q E := by
  unfold f__law_bnamed
  rw [w_fnD]
  simp [m__law_bnamed, startD]
  show wpM (lcF false _ _ _ _ ((thingsX y).map pX)) W _ _
  rw [lc_eq (thingsX y) pX (fun p => .str p.2) (fun p => p.1) (small_line (by show 21 < 10000; decide)) (fun p _ => ?s1)]
  case s1 =>
    simp [wipeD, pX, p__law_bnamed_q4, p__law_bnamed_e3]
  rw [h1]
  simp
  show wpM (lcF false _ _ _ _ ((othersX y).map pX)) W _ _
  rw [lc_eq (othersX y) pX (fun p => .str p.2) (fun p => p.1) (small_line (by show 2 < 10000; decide)) (fun p _ => ?s2)]
  case s2 =>
    simp [wipeD, pX, p__law_bnamed_q2, p__law_bnamed_e1]
  rw [h2]
  simp [h3, h4]
  exact h
def okX1 (L : List Str) (p : Str × Str × Str) : Bool := L.contains p.1 && p.2.1 == "thing" && ((thingsX p.1).filter (·.1) == [(true, p.2.2)]) && ((othersX p.1).filter (·.1) == []) && !(p.2.2 == "rows") && !(p.2.2 == "too many")
theorem lookup_mem {α β : Type} [BEq α] [LawfulBEq α] {a : α} {b : β} : ∀ {l : List (α × β)}, l.lookup a = some b → (a, b) ∈ l
  | [], h => by cases h
  | (k, v) :: r, h => by
    rw [List.lookup_cons] at h
    split at h
    · rename_i e
      cases h
      rw [eq_of_beq e]
      exact List.mem_cons_self
    · exact List.mem_cons_of_mem _ (lookup_mem h)
theorem nmT_inv {tab : List (Str × Str × Str)} {e : DX} (h : wpM (nmT tab e) W Q E) : ∃ f w x, tab.lookup e.cls = some (f, w) ∧ e.fs = [(f, x)] ∧ Q (.d (.tup [.str w, x])) W := by
  unfold nmT at h
  obtain ⟨v, hv, q⟩ := wpM_opt h
  split at hv
  · rename_i f w g x h1 h2
    split at hv
    · rename_i hg
      cases hv
      subst hg
      exact ⟨_, _, _, h1, h2, q⟩
    · cases hv
  · cases hv
theorem nmT_of {tab : List (Str × Str × Str)} {c f w : Str} {x : D} (h1 : tab.lookup c = some (f, w)) (q : Q (.d (.tup [.str w, x])) W) : wpM (nmT tab ⟨c, [(f, x)]⟩) W Q E := by
  unfold nmT
  dsimp only
  rw [h1]
  dsimp only
  rw [if_pos rfl]
  exact q
theorem names1 {cv : Str → Value} {L : List Str} {tab : List (Str × Str × Str)} (h : tab.all (okX1 L) = true) : Names1 cv L f__law_bnamed (nmT tab) := by
  intro e W Q hw
  obtain ⟨f, w, x, h1, h2, q⟩ := nmT_inv hw
  obtain ⟨cls, fs⟩ := e
  dsimp only at h1 h2
  subst h2
  have h3 := List.all_eq_true.mp h _ (lookup_mem h1)
  unfold okX1 at h3
  simp only [Bool.and_eq_true, Bool.not_eq_true', beq_iff_eq, List.contains_iff_mem, beq_eq_false_iff_ne] at h3
  obtain ⟨⟨⟨⟨⟨a1, a2⟩, a3⟩, a4⟩, a5⟩, a6⟩ := h3
  subst a2
  refine ⟨a1, by simp, fun C a dd _ => bnamed_word a3 a4 a5 a6 q⟩
end
end SH
set_option Elab.async false
set_option linter.all false
set_option maxRecDepth 100000
set_option maxHeartbeats 4000000
namespace K18
open PySem PySem.Spec PyProof.Rows L2 RZ DL SH
def topS (i : Nat) : Stmt := PySem.Challenge.pw_foldedsums_k18_lifts.main.body.getD i (.Pass ⟨0, 0, 0, 0⟩)
abbrev s__law_is_once : Stmt := topS 45
abbrev s__law_spoilt : Stmt := topS 44
abbrev s__law_apart : Stmt := topS 46
abbrev s__law_below : Stmt := topS 38
abbrev s__law_bpairs : Stmt := topS 48
abbrev s__law_blift : Stmt := topS 49
abbrev s__law_chance : Stmt := topS 39
abbrev s__law_bnumber : Stmt := topS 47
abbrev s__law_bnamed : Stmt := topS 51
abbrev s__law_braised : Stmt := topS 52
abbrev s__law_same : Stmt := topS 42
abbrev s__law_brefuses : Stmt := topS 53
abbrev s__law_bvalue : Stmt := topS 50
abbrev s__law_mixed : Stmt := topS 41
abbrev s__law_loose : Stmt := topS 43
abbrev s__law_pick : Stmt := topS 40
abbrev s__law_start : Stmt := topS 37
abbrev s_pairs_of : Stmt := topS 30
abbrev s_lift_of : Stmt := topS 31
abbrev s_is_integer : Stmt := topS 26
abbrev s_is_row : Stmt := topS 27
abbrev s_need_registers : Stmt := topS 33
abbrev s_lift : Stmt := topS 34
abbrev s_monomials : Stmt := topS 32
abbrev s_value_at : Stmt := topS 35
abbrev s_law : Stmt := topS 54
abbrev i_BadRegisters : Stmt := (clsB (topS 16)).getD 0 (.Pass ⟨0, 0, 0, 0⟩)
theorem Si_BadRegisters : FnScope ["self", "thing"] ["self", "thing"] (defScope i_BadRegisters) := ⟨rfl, rfl, rfl, by decide +kernel, rfl, by decide +kernel, by decide +kernel⟩
abbrev i_BadMany : Stmt := (clsB (topS 13)).getD 0 (.Pass ⟨0, 0, 0, 0⟩)
theorem Si_BadMany : FnScope ["self", "thing"] ["self", "thing"] (defScope i_BadMany) := ⟨rfl, rfl, rfl, by decide +kernel, rfl, by decide +kernel, by decide +kernel⟩
abbrev i_BadEquation : Stmt := (clsB (topS 6)).getD 0 (.Pass ⟨0, 0, 0, 0⟩)
theorem Si_BadEquation : FnScope ["self", "thing"] ["self", "thing"] (defScope i_BadEquation) := ⟨rfl, rfl, rfl, by decide +kernel, rfl, by decide +kernel, by decide +kernel⟩
abbrev raisedL : List Str := ["BadRegisters", "BadMany", "BadEquation"]
abbrev namedL : List Str := ["BadCore", "BadInput", "BadSigns", "BadMany", "BadLevels", "BadSteps", "BadOpens", "BadCloses", "BadEnds", "BadLength", "BadEquation", "BadLevel", "BadRegisters", "BadKey", "BadRow", "BadInner", "BadBy", "BadSpace", "BadSecond", "BadSize", "BadPlace", "BadRows", "TooMany"]
def nms : List (Str × Str × Str) := [("BadRegisters", "thing", "registers"), ("BadMany", "thing", "many"), ("BadEquation", "thing", "equation")]
def wd_SIZES : List (Int × Int) := [(3, 1), (6, 2), (10, 3)]
structure Top (K : PySem.W.Frag) (mg : Str → Option Value) (cv : Str → Value) : Prop where
  rai_BadRegisters : ∃ C : Addr, cv "BadRegisters" = .ref C ∧ ∀ (P : Program) (w : World) (base : Heap), RaiD P w K mg base 1 "BadRegisters" C "thing"
  rai_BadMany : ∃ C : Addr, cv "BadMany" = .ref C ∧ ∀ (P : Program) (w : World) (base : Heap), RaiD P w K mg base 1 "BadMany" C "thing"
  rai_BadEquation : ∃ C : Addr, cv "BadEquation" = .ref C ∧ ∀ (P : Program) (w : World) (base : Heap), RaiD P w K mg base 1 "BadEquation" C "thing"
  nam : ∀ x ∈ raisedL, ∀ C : Addr, cv x = .ref C → NamF K mg C x namedL
  fo : ∃ CF : Addr, mg "FoldedError" = some (.ref CF) ∧ ∀ x ∈ raisedL, ∃ C : Addr, cv x = .ref C ∧ PySem.W.exmOne K (.ref C) (.ref CF) = some true
  wd_SIZES : ∃ d : Addr, mg "SIZES" = some (.ref d) ∧ IntD K d wd_SIZES
  z_all : mg "all" = none
  z_bool : mg "bool" = none
  z_dict : mg "dict" = none
  z_int : mg "int" = none
  z_isinstance : mg "isinstance" = none
  z_len : mg "len" = none
  z_list : mg "list" = none
  z_range : mg "range" = none
  z_str : mg "str" = none
  z_sum : mg "sum" = none
  z_tuple : mg "tuple" = none
  z_zip : mg "zip" = none
  d__law_is_once : TopD K mg "_law_is_once" s__law_is_once ["thing"]
  d__law_spoilt : TopD K mg "_law_spoilt" s__law_spoilt ["thing"]
  d__law_apart : TopD K mg "_law_apart" s__law_apart ["thing"]
  d__law_below : TopD K mg "_law_below" s__law_below ["stream", "many"]
  d__law_bpairs : TopD K mg "_law_bpairs" s__law_bpairs ["many"]
  d__law_blift : TopD K mg "_law_blift" s__law_blift ["x"]
  d__law_chance : TopD K mg "_law_chance" s__law_chance ["stream", "many"]
  d__law_bnumber : TopD K mg "_law_bnumber" s__law_bnumber ["stream"]
  d__law_bnamed : TopD K mg "_law_bnamed" s__law_bnamed ["e"]
  d__law_braised : TopD K mg "_law_braised" s__law_braised ["run"]
  d__law_same : TopD K mg "_law_same" s__law_same ["found", "due"]
  d__law_brefuses : TopD K mg "_law_brefuses" s__law_brefuses ["word", "thing", "run"]
  d__law_bvalue : TopD K mg "_law_bvalue" s__law_bvalue ["equation", "x"]
  d__law_mixed : TopD K mg "_law_mixed" s__law_mixed ["stream", "some"]
  d__law_loose : TopD K mg "_law_loose" s__law_loose ["stream", "thing"]
  d__law_pick : TopD K mg "_law_pick" s__law_pick ["stream", "some"]
  d__law_start : TopD K mg "_law_start" s__law_start ["script"]
  d_pairs_of : TopD K mg "pairs_of" s_pairs_of ["many"]
  d_lift_of : TopD K mg "lift_of" s_lift_of ["registers"]
  d_is_integer : TopD K mg "is_integer" s_is_integer ["thing"]
  d_is_row : TopD K mg "is_row" s_is_row ["thing", "size"]
  d_need_registers : TopD K mg "need_registers" s_need_registers ["registers", "least", "most"]
  d_lift : TopD K mg "lift" s_lift ["registers"]
  d_monomials : TopD K mg "monomials" s_monomials ["many"]
  d_value_at : TopD K mg "value_at" s_value_at ["equation", "registers"]
noncomputable section
variable {P : Program} {w : World} {K : PySem.W.Frag} {mg : Str → Option Value} {base : Heap} {cv : Str → Value}
/-! ### _law_is_once -/
abbrev N__law_is_once : List Str := ["thing", "many", "key", "part"]
theorem S__law_is_once : FnScope N__law_is_once ["thing"] (defScope s__law_is_once) := ⟨rfl, rfl, rfl, by decide +kernel, rfl, by decide +kernel, by decide +kernel⟩
theorem c__law_is_once (T : Top K mg cv) (n : Nat) : CalD P w K mg base cv (n + 0) "_law_is_once" 1 (f__law_is_once n) := by
  induction n with
  | zero =>
    rw [f__law_is_once_0]
    exact T.d__law_is_once.zero.mono (Nat.zero_le _)
  | succ n rec =>
    rw [Nat.add_right_comm, f__law_is_once_s]
    refine T.d__law_is_once.cal S__law_is_once fun f cdv A outer s H E hr => ?_
    have hx : Passes (L2N.CX P w) (cxOf (L2N.CX P w) P w K mg base N__law_is_once "_law_is_once" (defScope s__law_is_once) f cdv A outer s H E) E := L2N.passes_call (L2N.takes_of rfl rfl rfl rfl) (fun _ _ _ _ h => h)
    have hp : PassesOwn (model P w) (cxOf (L2N.CX P w) P w K mg base N__law_is_once "_law_is_once" (defScope s__law_is_once) f cdv A outer s H E).A (cxOf (L2N.CX P w) P w K mg base N__law_is_once "_law_is_once" (defScope s__law_is_once) f cdv A outer s H E).env (cxOf (L2N.CX P w) P w K mg base N__law_is_once "_law_is_once" (defScope s__law_is_once) f cdv A outer s H E).xe := passes_of rfl
    exact (dss_cons (ds_if (dt_val (de_callB (fun _ => CallR.or call_isiY call_isiTY) cd_isi (fun _ => T.z_isinstance) (da_cons (de_var 0) (da_cons (de_ty .dct (fun _ => T.z_dict)) da_nil)))) (dss_one (ds_ret (de_and (de_cmp (or_eq (fun _ => rfl) (fun _ => hr)) opd_eq (de_ix (fun _ => rfl) (de_var 0) de_str (fun _ _ => rfl)) de_int rfl) (de_one (de_callB (fun _ => call_bAll rfl rfl) cd_all (fun _ => T.z_all) (da_cons (de_lc (mk := false) N__law_is_once (defScope s__law_is_once) [("key", 2)] (blkOk_by (by decide +kernel)) (sub_by (by decide)) (fun _ => rfl) (fun _ => S__law_is_once.nd) (di_any (fun _ => rfl) (de_var 0)) (dg_name 2 (fun _ => S__law_is_once.nd)) (dts_one (dt_cmp (or_ne (fun _ => rfl) (fun _ => hr)) opd_ne (de_var 2) de_str rfl)) (de_call (fun _ => rec) (fun _ => hr) (fun _ => pass0N) (fun _ => rfl) (da_cons (de_ix (fun _ => rfl) (de_var 0) (de_var 2) (fun _ _ => rfl)) da_nil))) da_nil)))))) dss_nil)
    (dss_cons (ds_if (dt_val (de_callB (fun _ => CallR.or call_isiY call_isiTY) cd_isi (fun _ => T.z_isinstance) (da_cons (de_var 0) (da_cons (de_tup (da_cons (de_ty .lst (fun _ => T.z_list)) (da_cons (de_ty .tup (fun _ => T.z_tuple)) da_nil))) da_nil)))) (dss_cons (ds_asg (de_callTy (fun _ => call_int1) cd_int (fun _ => T.z_int) (da_cons (de_callB (fun _ => CallR.or call_isiY call_isiTY) cd_isi (fun _ => T.z_isinstance) (da_cons (de_var 0) (da_cons (de_ty .lst (fun _ => T.z_list)) da_nil))) da_nil)) (dg_name 1 (fun _ => S__law_is_once.nd)))
    (dss_one (ds_ret (de_and (de_cmp (or_eq (fun _ => rfl) (fun _ => hr)) opd_eq (de_mthL (fun _ => rfl) PySem.F.slot_list_count PySem.F.type_list_count (fun _ => mt_countD (room_un hr)) md_countL (de_callTy (fun _ => call_bList rfl rfl) (cd_list (mk := false)) (fun _ => T.z_list) (da_cons (de_var 0) da_nil)) (da_cons de_str da_nil)) (de_var 1) rfl) (de_one (de_callB (fun _ => call_bAll rfl rfl) cd_all (fun _ => T.z_all) (da_cons (de_lc (mk := false) N__law_is_once (defScope s__law_is_once) [("part", 3)] (blkOk_by (by decide +kernel)) (sub_by (by decide)) (fun _ => rfl) (fun _ => S__law_is_once.nd) (di_any (fun _ => rfl) (de_var 0)) (dg_name 3 (fun _ => S__law_is_once.nd)) dts_nil (de_call (fun _ => rec) (fun _ => hr) (fun _ => pass0N) (fun _ => rfl) (da_cons (de_var 3) da_nil))) da_nil))))))) dss_nil)
    (dss_one (ds_ret de_bl))))
/-! ### _law_spoilt -/
abbrev N__law_spoilt : List Str := ["thing", "key", "part"]
theorem S__law_spoilt : FnScope N__law_spoilt ["thing"] (defScope s__law_spoilt) := ⟨rfl, rfl, rfl, by decide +kernel, rfl, by decide +kernel, by decide +kernel⟩
theorem c__law_spoilt (T : Top K mg cv) (n : Nat) : CalD P w K mg base cv (n + 0) "_law_spoilt" 1 (f__law_spoilt n) := by
  induction n with
  | zero =>
    rw [f__law_spoilt_0]
    exact T.d__law_spoilt.zero.mono (Nat.zero_le _)
  | succ n rec =>
    rw [Nat.add_right_comm, f__law_spoilt_s]
    refine T.d__law_spoilt.cal S__law_spoilt fun f cdv A outer s H E hr => ?_
    have hx : Passes (L2N.CX P w) (cxOf (L2N.CX P w) P w K mg base N__law_spoilt "_law_spoilt" (defScope s__law_spoilt) f cdv A outer s H E) E := L2N.passes_call (L2N.takes_of rfl rfl rfl rfl) (fun _ _ _ _ h => h)
    have hp : PassesOwn (model P w) (cxOf (L2N.CX P w) P w K mg base N__law_spoilt "_law_spoilt" (defScope s__law_spoilt) f cdv A outer s H E).A (cxOf (L2N.CX P w) P w K mg base N__law_spoilt "_law_spoilt" (defScope s__law_spoilt) f cdv A outer s H E).env (cxOf (L2N.CX P w) P w K mg base N__law_spoilt "_law_spoilt" (defScope s__law_spoilt) f cdv A outer s H E).xe := passes_of rfl
    exact (dss_cons (ds_if (dt_val (de_callB (fun _ => CallR.or call_isiY call_isiTY) cd_isi (fun _ => T.z_isinstance) (da_cons (de_var 0) (da_cons (de_ty .dct (fun _ => T.z_dict)) da_nil)))) (dss_cons (ds_for (fun _ => hp) (fun _ => rfl) (di_any (fun _ => rfl) (de_callTy (fun _ => call_bList rfl rfl) (cd_list (mk := false)) (fun _ => T.z_list) (da_cons (de_var 0) da_nil))) (dg_name 1 (fun _ => S__law_spoilt.nd)) (dss_one (ds_expr (de_call (fun _ => rec) (fun _ => hr) (fun _ => hx) (fun _ => rfl) (da_cons (de_ix (fun _ => rfl) (de_var 0) (de_var 1) (fun _ _ => rfl)) da_nil)))))
    (dss_one (ds_asg (de_add (mk := false) (fun _ => rfl) DE.never de_int) (dg_sub (de_var 0) de_str)))) dss_nil)
    (dss_cons (ds_if (dt_val (de_callB (fun _ => CallR.or call_isiY call_isiTY) cd_isi (fun _ => T.z_isinstance) (da_cons (de_var 0) (da_cons (de_tup (da_cons (de_ty .lst (fun _ => T.z_list)) (da_cons (de_ty .tup (fun _ => T.z_tuple)) da_nil))) da_nil)))) (dss_one (ds_forQ (fun _ => hp) (fun _ => rfl) (diq_any (fun _ => rfl) (de_var 0)) (dg_name 2 (fun _ => S__law_spoilt.nd)) (dss_one (ds_expr (de_call (fun _ => rec) (fun _ => hr) (fun _ => hx) (fun _ => rfl) (da_cons (de_var 2) da_nil)))))) dss_nil)
    (dss_one (ds_if (dt_val (de_callB (fun _ => CallR.or call_isiY call_isiTY) cd_isi (fun _ => T.z_isinstance) (da_cons (de_var 0) (da_cons (de_ty .lst (fun _ => T.z_list)) da_nil)))) (dss_one (ds_expr (de_mthL (fun _ => rfl) PySem.F.slot_list_append PySem.F.type_list_append (fun _ => mt_append) md_append (de_var 0) (da_cons de_str da_nil)))) dss_nil))))
/-! ### _law_apart -/
abbrev N__law_apart : List Str := ["thing"]
theorem S__law_apart : FnScope N__law_apart ["thing"] (defScope s__law_apart) := ⟨rfl, rfl, rfl, by decide +kernel, rfl, by decide +kernel, by decide +kernel⟩
theorem c__law_apart (T : Top K mg cv) : CalD P w K mg base cv 7 "_law_apart" 1 f__law_apart := by
  unfold f__law_apart
  refine T.d__law_apart.cal S__law_apart fun f cdv A outer s H E hr => ?_
  have hx : Passes (L2N.CX P w) (cxOf (L2N.CX P w) P w K mg base N__law_apart "_law_apart" (defScope s__law_apart) f cdv A outer s H E) E := L2N.passes_call (L2N.takes_of rfl rfl rfl rfl) (fun _ _ _ _ h => h)
  have hp : PassesOwn (model P w) (cxOf (L2N.CX P w) P w K mg base N__law_apart "_law_apart" (defScope s__law_apart) f cdv A outer s H E).A (cxOf (L2N.CX P w) P w K mg base N__law_apart "_law_apart" (defScope s__law_apart) f cdv A outer s H E).env (cxOf (L2N.CX P w) P w K mg base N__law_apart "_law_apart" (defScope s__law_apart) f cdv A outer s H E).xe := passes_of rfl
  exact (dss_cons (ds_expr (de_call (fun _ => (c__law_spoilt T 6)) (fun _ => hr) (fun _ => hx) (fun _ => rfl) (da_cons (de_var 0) da_nil)))
    (dss_one (ds_ret (de_call (fun _ => (c__law_is_once T 6)) (fun _ => hr) (fun _ => hx) (fun _ => rfl) (da_cons (de_deep 8 (de_var 0)) da_nil)))))
/-! ### _law_below -/
abbrev N__law_below : List Str := ["stream", "many", "cell", "digit", "mixed"]
theorem S__law_below : FnScope N__law_below ["stream", "many"] (defScope s__law_below) := ⟨rfl, rfl, rfl, by decide +kernel, rfl, by decide +kernel, by decide +kernel⟩
theorem c__law_below (T : Top K mg cv) : CalD P w K mg base cv 1 "_law_below" 2 f__law_below := by
  unfold f__law_below
  refine T.d__law_below.cal S__law_below fun f cdv A outer s H E hr => ?_
  have hx : Passes (L2N.CX P w) (cxOf (L2N.CX P w) P w K mg base N__law_below "_law_below" (defScope s__law_below) f cdv A outer s H E) E := L2N.passes_call (L2N.takes_of rfl rfl rfl rfl) (fun _ _ _ _ h => h)
  have hp : PassesOwn (model P w) (cxOf (L2N.CX P w) P w K mg base N__law_below "_law_below" (defScope s__law_below) f cdv A outer s H E).A (cxOf (L2N.CX P w) P w K mg base N__law_below "_law_below" (defScope s__law_below) f cdv A outer s H E).env (cxOf (L2N.CX P w) P w K mg base N__law_below "_law_below" (defScope s__law_below) f cdv A outer s H E).xe := passes_of rfl
  exact (dss_cons (ds_asg (de_add (mk := false) (fun _ => rfl) (de_ix (fun _ => rfl) (de_var 0) de_int (fun _ _ => rfl)) de_int) (dg_sub (de_var 0) de_int))
    (dss_cons (ds_while 100 (fun _ => hp) (DW.t (dw_and (dt_cmp (or_eq (fun _ => rfl) (fun _ => hr)) opd_eq (de_ix (fun _ => rfl) (de_var 0) de_int (fun _ _ => rfl)) de_int rfl) (dw_and1 (dt_cmp (or_ne (fun _ => rfl) (fun _ => hr)) opd_ne (de_ix (fun _ => rfl) (de_var 0) de_int (fun _ _ => rfl)) (de_lst (mk := false) da_nil) rfl)))) (dss_cons (ds_asg (de_mthL (fun _ => rfl) PySem.F.slot_list_pop PySem.F.type_list_pop (fun _ => mt_popAt) md_pop (de_ix (fun _ => rfl) (de_var 0) de_int (fun _ _ => rfl)) (da_cons de_int da_nil)) (dg_name 2 (fun _ => S__law_below.nd)))
    (dss_cons (ds_asg (de_mod (de_callTy (fun _ => call_int1) cd_int (fun _ => T.z_int) (da_cons (de_add (mk := false) (fun _ => rfl) (de_add (mk := false) (fun _ => rfl) (de_mul (mk := false) (de_ix (fun _ => rfl) (de_var 0) de_int (fun _ _ => rfl)) de_int) (de_var 2)) de_int) da_nil)) de_int) (dg_sub (de_var 0) de_int))
    (dss_one (ds_asg (de_if (dt_cmp (fun _ => op_ge) opd_ge (de_var 2) (de_pow de_int de_int) rfl) (de_var 2) de_int) (dg_sub (de_var 0) de_int))))))
    (dss_cons (ds_if (dt_cmp (fun _ => op_gt) opd_gt (de_ix (fun _ => rfl) (de_var 0) de_int (fun _ _ => rfl)) de_int rfl) (dss_cons (ds_asg (de_mod (de_callTy (fun _ => call_int1) cd_int (fun _ => T.z_int) (da_cons (de_ix (fun _ => rfl) (de_var 0) de_int (fun _ _ => rfl)) da_nil)) (de_var 1)) (dg_name 3 (fun _ => S__law_below.nd)))
    (dss_cons (ds_asg (de_fdiv (de_ix (fun _ => rfl) (de_var 0) de_int (fun _ _ => rfl)) (de_var 1)) (dg_sub (de_var 0) de_int))
    (dss_one (ds_ret (de_var 3))))) dss_nil)
    (dss_cons (ds_asg (de_mod (de_callTy (fun _ => call_int1) cd_int (fun _ => T.z_int) (da_cons (de_pow (de_add (mk := false) (fun _ => rfl) (de_add (mk := false) (fun _ => rfl) (de_ix (fun _ => rfl) (de_var 0) de_int (fun _ _ => rfl)) (de_mul (mk := false) de_int (de_ix (fun _ => rfl) (de_var 0) de_int (fun _ _ => rfl)))) de_int) de_int) da_nil)) de_int) (dg_name 4 (fun _ => S__law_below.nd)))
    (dss_one (ds_ret (de_mod (de_mod (de_callTy (fun _ => call_int1) cd_int (fun _ => T.z_int) (da_cons (de_pow (de_add (mk := false) (fun _ => rfl) (de_add (mk := false) (fun _ => rfl) (de_mul (mk := false) (de_var 4) de_int) (de_mul (mk := false) de_int (de_ix (fun _ => rfl) (de_var 0) de_int (fun _ _ => rfl)))) de_int) de_int) da_nil)) de_int) (de_var 1))))))))
/-! ### _law_bpairs -/
abbrev N__law_bpairs : List Str := ["many", "found", "one", "two"]
theorem S__law_bpairs : FnScope N__law_bpairs ["many"] (defScope s__law_bpairs) := ⟨rfl, rfl, rfl, by decide +kernel, rfl, by decide +kernel, by decide +kernel⟩
def p__law_bpairs_e1 (δ : DL.Env) : M RV :=
  (evTup (evCons (evVar 2) (evCons (evVar 3) evNil))) δ
def p__law_bpairs_b2 (δ : DL.Env) : M (Fl × DL.Env) :=
  (evAsg (ev2 (opAdd false) (evVar 1) (evLc false [3] (evRange2 (evCons (evVar 2) (evCons (ev2 (opAdd false) (evVar 0) (cI 1)) evNil))) (gtName 3) evYes p__law_bpairs_e1)) (gtName 1)) δ
def m__law_bpairs (δ : DL.Env) : M (Fl × DL.Env) :=
  (evSeq (evAsg (evLst false evNil) (gtName 1))
    (evSeq (evFor (evRange1 (evCons (ev2 (opAdd false) (evVar 0) (cI 1)) evNil)) (gtName 2) p__law_bpairs_b2)
    (evRet (evVar 1)))) δ
@[irreducible] def f__law_bpairs : List RV → M RV := fnD 4 m__law_bpairs
theorem c__law_bpairs (T : Top K mg cv) : CalD P w K mg base cv 1 "_law_bpairs" 1 f__law_bpairs := by
  unfold f__law_bpairs
  refine T.d__law_bpairs.cal S__law_bpairs fun f cdv A outer s H E hr => ?_
  have hx : Passes (L2N.CX P w) (cxOf (L2N.CX P w) P w K mg base N__law_bpairs "_law_bpairs" (defScope s__law_bpairs) f cdv A outer s H E) E := L2N.passes_call (L2N.takes_of rfl rfl rfl rfl) (fun _ _ _ _ h => h)
  have hp : PassesOwn (model P w) (cxOf (L2N.CX P w) P w K mg base N__law_bpairs "_law_bpairs" (defScope s__law_bpairs) f cdv A outer s H E).A (cxOf (L2N.CX P w) P w K mg base N__law_bpairs "_law_bpairs" (defScope s__law_bpairs) f cdv A outer s H E).env (cxOf (L2N.CX P w) P w K mg base N__law_bpairs "_law_bpairs" (defScope s__law_bpairs) f cdv A outer s H E).xe := passes_of rfl
  exact (dss_cons (ds_asg (de_lst (mk := false) da_nil) (dg_name 1 (fun _ => S__law_bpairs.nd)))
    (dss_cons (ds_for (fun _ => hp) (fun _ => rfl) (di_range1 (fun _ => T.z_range) (da_cons (de_add (mk := false) (fun _ => rfl) (de_var 0) de_int) da_nil)) (dg_name 2 (fun _ => S__law_bpairs.nd)) (dss_one (ds_asg (de_add (mk := false) (fun _ => rfl) (de_var 1) (de_lc (mk := false) N__law_bpairs (defScope s__law_bpairs) [("two", 3)] (blkOk_by (by decide +kernel)) (sub_by (by decide)) (fun _ => rfl) (fun _ => S__law_bpairs.nd) (di_range2 (fun _ => T.z_range) (da_cons (de_var 2) (da_cons (de_add (mk := false) (fun _ => rfl) (de_var 0) de_int) da_nil))) (dg_name 3 (fun _ => S__law_bpairs.nd)) dts_nil (de_tup (da_cons (de_var 2) (da_cons (de_var 3) da_nil))))) (dg_name 1 (fun _ => S__law_bpairs.nd)))))
    (dss_one (ds_ret (de_var 1)))))
/-! ### _law_blift -/
abbrev N__law_blift : List Str := ["x", "full", "one", "two"]
theorem S__law_blift : FnScope N__law_blift ["x"] (defScope s__law_blift) := ⟨rfl, rfl, rfl, by decide +kernel, rfl, by decide +kernel, by decide +kernel⟩
def p__law_blift_e1 (δ : DL.Env) : M RV :=
  (ev2 (opMul false) (ev2 opIx (evVar 1) (evVar 2)) (ev2 opIx (evVar 1) (evVar 3))) δ
def m__law_blift (δ : DL.Env) : M (Fl × DL.Env) :=
  (evSeq (evAsg (ev2 (opAdd false) (evLst false (evCons (cI 1) evNil)) (evCall (bList false) (evCons (evVar 0) evNil))) (gtName 1))
    (evRet (evLc false [2, 3] (evIter (evCallF 1 f__law_bpairs (evCons (evCall bLen (evCons (evVar 0) evNil)) evNil))) (gtUnp 2 (gtCons (gtName 2) (gtCons (gtName 3) gtNil))) evYes p__law_blift_e1))) δ
@[irreducible] def f__law_blift : List RV → M RV := fnD 4 m__law_blift
theorem c__law_blift (T : Top K mg cv) : CalD P w K mg base cv 2 "_law_blift" 1 f__law_blift := by
  unfold f__law_blift
  refine T.d__law_blift.cal S__law_blift fun f cdv A outer s H E hr => ?_
  have hx : Passes (L2N.CX P w) (cxOf (L2N.CX P w) P w K mg base N__law_blift "_law_blift" (defScope s__law_blift) f cdv A outer s H E) E := L2N.passes_call (L2N.takes_of rfl rfl rfl rfl) (fun _ _ _ _ h => h)
  have hp : PassesOwn (model P w) (cxOf (L2N.CX P w) P w K mg base N__law_blift "_law_blift" (defScope s__law_blift) f cdv A outer s H E).A (cxOf (L2N.CX P w) P w K mg base N__law_blift "_law_blift" (defScope s__law_blift) f cdv A outer s H E).env (cxOf (L2N.CX P w) P w K mg base N__law_blift "_law_blift" (defScope s__law_blift) f cdv A outer s H E).xe := passes_of rfl
  exact (dss_cons (ds_asg (de_add (mk := false) (fun _ => rfl) (de_lst (mk := false) (da_cons de_int da_nil)) (de_callTy (fun _ => call_bList rfl rfl) (cd_list (mk := false)) (fun _ => T.z_list) (da_cons (de_var 0) da_nil))) (dg_name 1 (fun _ => S__law_blift.nd)))
    (dss_one (ds_ret (de_lc (mk := false) N__law_blift (defScope s__law_blift) [("one", 2), ("two", 3)] (blkOk_by (by decide +kernel)) (sub_by (by decide)) (fun _ => rfl) (fun _ => S__law_blift.nd) (di_any (fun _ => rfl) (de_call (fun _ => (c__law_bpairs T)) (fun _ => hr) (fun _ => hx) (fun _ => rfl) (da_cons (de_callB (fun _ => call_bLen rfl) cd_len (fun _ => T.z_len) (da_cons (de_var 0) da_nil)) da_nil))) (dg_tup (n := 2) (fun _ => rfl) (fun _ => rfl) (dgs_cons (dg_name 2 (fun _ => S__law_blift.nd)) (dgs_cons (dg_name 3 (fun _ => S__law_blift.nd)) dgs_nil))) dts_nil (de_mul (mk := false) (de_ix (fun _ => rfl) (de_var 1) (de_var 2) (fun _ _ => rfl)) (de_ix (fun _ => rfl) (de_var 1) (de_var 3) (fun _ _ => rfl)))))))
/-! ### _law_chance -/
abbrev N__law_chance : List Str := ["stream", "many"]
theorem S__law_chance : FnScope N__law_chance ["stream", "many"] (defScope s__law_chance) := ⟨rfl, rfl, rfl, by decide +kernel, rfl, by decide +kernel, by decide +kernel⟩
def m__law_chance (δ : DL.Env) : M (Fl × DL.Env) :=
  (evRet (ev2 (opEq false) (evCallF 2 f__law_below (evCons (evVar 0) (evCons (evVar 1) evNil))) (cI 0))) δ
@[irreducible] def f__law_chance : List RV → M RV := fnD 2 m__law_chance
theorem c__law_chance (T : Top K mg cv) : CalD P w K mg base cv 2 "_law_chance" 2 f__law_chance := by
  unfold f__law_chance
  refine T.d__law_chance.cal S__law_chance fun f cdv A outer s H E hr => ?_
  have hx : Passes (L2N.CX P w) (cxOf (L2N.CX P w) P w K mg base N__law_chance "_law_chance" (defScope s__law_chance) f cdv A outer s H E) E := L2N.passes_call (L2N.takes_of rfl rfl rfl rfl) (fun _ _ _ _ h => h)
  have hp : PassesOwn (model P w) (cxOf (L2N.CX P w) P w K mg base N__law_chance "_law_chance" (defScope s__law_chance) f cdv A outer s H E).A (cxOf (L2N.CX P w) P w K mg base N__law_chance "_law_chance" (defScope s__law_chance) f cdv A outer s H E).env (cxOf (L2N.CX P w) P w K mg base N__law_chance "_law_chance" (defScope s__law_chance) f cdv A outer s H E).xe := passes_of rfl
  exact (dss_one (ds_ret (de_cmp (or_eq (fun _ => rfl) (fun _ => hr)) opd_eq (de_call (fun _ => (c__law_below T)) (fun _ => hr) (fun _ => hx) (fun _ => rfl) (da_cons (de_var 0) (da_cons (de_var 1) da_nil))) de_int rfl)))
/-! ### _law_bnumber -/
abbrev N__law_bnumber : List Str := ["stream"]
theorem S__law_bnumber : FnScope N__law_bnumber ["stream"] (defScope s__law_bnumber) := ⟨rfl, rfl, rfl, by decide +kernel, rfl, by decide +kernel, by decide +kernel⟩
def m__law_bnumber (δ : DL.Env) : M (Fl × DL.Env) :=
  (evRet (evIf (evB (evCallF 2 f__law_chance (evCons (evVar 0) (evCons (cI 14) evNil)))) (ev2 opSub (evCallF 2 f__law_below (evCons (evVar 0) (evCons (cI 1999) evNil))) (cI 999)) (ev2 opSub (evCallF 2 f__law_below (evCons (evVar 0) (evCons (cI 6) evNil))) (cI 2)))) δ
@[irreducible] def f__law_bnumber : List RV → M RV := fnD 1 m__law_bnumber
theorem c__law_bnumber (T : Top K mg cv) : CalD P w K mg base cv 3 "_law_bnumber" 1 f__law_bnumber := by
  unfold f__law_bnumber
  refine T.d__law_bnumber.cal S__law_bnumber fun f cdv A outer s H E hr => ?_
  have hx : Passes (L2N.CX P w) (cxOf (L2N.CX P w) P w K mg base N__law_bnumber "_law_bnumber" (defScope s__law_bnumber) f cdv A outer s H E) E := L2N.passes_call (L2N.takes_of rfl rfl rfl rfl) (fun _ _ _ _ h => h)
  have hp : PassesOwn (model P w) (cxOf (L2N.CX P w) P w K mg base N__law_bnumber "_law_bnumber" (defScope s__law_bnumber) f cdv A outer s H E).A (cxOf (L2N.CX P w) P w K mg base N__law_bnumber "_law_bnumber" (defScope s__law_bnumber) f cdv A outer s H E).env (cxOf (L2N.CX P w) P w K mg base N__law_bnumber "_law_bnumber" (defScope s__law_bnumber) f cdv A outer s H E).xe := passes_of rfl
  exact (dss_one (ds_ret (de_if (dt_val (de_call (fun _ => (c__law_chance T)) (fun _ => hr) (fun _ => hx) (fun _ => rfl) (da_cons (de_var 0) (da_cons de_int da_nil)))) (de_sub (de_call (fun _ => (c__law_below T)) (fun _ => hr) (fun _ => hx) (fun _ => rfl) (da_cons (de_var 0) (da_cons de_int da_nil))) de_int) (de_sub (de_call (fun _ => (c__law_below T)) (fun _ => hr) (fun _ => hx) (fun _ => rfl) (da_cons (de_var 0) (da_cons de_int da_nil))) de_int))))
/-! ### _law_bnamed -/
abbrev N__law_bnamed : List Str := ["e", "things", "words", "others", "right", "word"]
theorem S__law_bnamed : FnScope N__law_bnamed ["e"] (defScope s__law_bnamed) := ⟨rfl, rfl, rfl, by decide +kernel, rfl, by decide +kernel, by decide +kernel⟩
theorem c__law_bnamed (T : Top K mg cv) : CalX P w K mg base cv 1 "_law_bnamed" raisedL f__law_bnamed := by
  obtain ⟨f, fd, F, hm, hb⟩ := T.d__law_bnamed.ex
  refine ⟨f, fd, "e", ?_, hm, F.kp, hb⟩
  have e : (fun y C a dd => fnD N__law_bnamed.length (m__law_bnamed y C a dd)) = f__law_bnamed := by funext y C a dd; unfold f__law_bnamed; rfl
  rw [← e]
  refine okX F S__law_bnamed fun cdv A outer s H E p y C dd hr hot hX hy hcv => ?_
  have nam := T.nam y hy C hcv
  generalize ha : p.1 = a at hX
  exact (dss_cons (ds_asg (de_lst (mk := false) (da_cons (de_tup (da_cons (de_isN (y := "BadCore") (fun _ => hX) nam (fun _ => T.z_isinstance) (fun _ => rfl) (fun _ => rfl) (de_var 0)) (da_cons de_str da_nil))) (da_cons (de_tup (da_cons (de_isN (y := "BadInput") (fun _ => hX) nam (fun _ => T.z_isinstance) (fun _ => rfl) (fun _ => rfl) (de_var 0)) (da_cons de_str da_nil))) (da_cons (de_tup (da_cons (de_isN (y := "BadSigns") (fun _ => hX) nam (fun _ => T.z_isinstance) (fun _ => rfl) (fun _ => rfl) (de_var 0)) (da_cons de_str da_nil))) da_nil)))) (dg_name 1 (fun _ => S__law_bnamed.nd)))
    (dss_cons (ds_asg (de_add (mk := false) (fun _ => rfl) (de_var 1) (de_lst (mk := false) (da_cons (de_tup (da_cons (de_isN (y := "BadMany") (fun _ => hX) nam (fun _ => T.z_isinstance) (fun _ => rfl) (fun _ => rfl) (de_var 0)) (da_cons de_str da_nil))) (da_cons (de_tup (da_cons (de_isN (y := "BadLevels") (fun _ => hX) nam (fun _ => T.z_isinstance) (fun _ => rfl) (fun _ => rfl) (de_var 0)) (da_cons de_str da_nil))) (da_cons (de_tup (da_cons (de_isN (y := "BadSteps") (fun _ => hX) nam (fun _ => T.z_isinstance) (fun _ => rfl) (fun _ => rfl) (de_var 0)) (da_cons de_str da_nil))) da_nil))))) (dg_name 1 (fun _ => S__law_bnamed.nd)))
    (dss_cons (ds_asg (de_add (mk := false) (fun _ => rfl) (de_var 1) (de_lst (mk := false) (da_cons (de_tup (da_cons (de_isN (y := "BadOpens") (fun _ => hX) nam (fun _ => T.z_isinstance) (fun _ => rfl) (fun _ => rfl) (de_var 0)) (da_cons de_str da_nil))) (da_cons (de_tup (da_cons (de_isN (y := "BadCloses") (fun _ => hX) nam (fun _ => T.z_isinstance) (fun _ => rfl) (fun _ => rfl) (de_var 0)) (da_cons de_str da_nil))) (da_cons (de_tup (da_cons (de_isN (y := "BadEnds") (fun _ => hX) nam (fun _ => T.z_isinstance) (fun _ => rfl) (fun _ => rfl) (de_var 0)) (da_cons de_str da_nil))) da_nil))))) (dg_name 1 (fun _ => S__law_bnamed.nd)))
    (dss_cons (ds_asg (de_add (mk := false) (fun _ => rfl) (de_var 1) (de_lst (mk := false) (da_cons (de_tup (da_cons (de_isN (y := "BadLength") (fun _ => hX) nam (fun _ => T.z_isinstance) (fun _ => rfl) (fun _ => rfl) (de_var 0)) (da_cons de_str da_nil))) (da_cons (de_tup (da_cons (de_isN (y := "BadEquation") (fun _ => hX) nam (fun _ => T.z_isinstance) (fun _ => rfl) (fun _ => rfl) (de_var 0)) (da_cons de_str da_nil))) (da_cons (de_tup (da_cons (de_isN (y := "BadLevel") (fun _ => hX) nam (fun _ => T.z_isinstance) (fun _ => rfl) (fun _ => rfl) (de_var 0)) (da_cons de_str da_nil))) da_nil))))) (dg_name 1 (fun _ => S__law_bnamed.nd)))
    (dss_cons (ds_asg (de_add (mk := false) (fun _ => rfl) (de_var 1) (de_lst (mk := false) (da_cons (de_tup (da_cons (de_isN (y := "BadRegisters") (fun _ => hX) nam (fun _ => T.z_isinstance) (fun _ => rfl) (fun _ => rfl) (de_var 0)) (da_cons de_str da_nil))) (da_cons (de_tup (da_cons (de_isN (y := "BadKey") (fun _ => hX) nam (fun _ => T.z_isinstance) (fun _ => rfl) (fun _ => rfl) (de_var 0)) (da_cons de_str da_nil))) (da_cons (de_tup (da_cons (de_isN (y := "BadRow") (fun _ => hX) nam (fun _ => T.z_isinstance) (fun _ => rfl) (fun _ => rfl) (de_var 0)) (da_cons de_str da_nil))) da_nil))))) (dg_name 1 (fun _ => S__law_bnamed.nd)))
    (dss_cons (ds_asg (de_add (mk := false) (fun _ => rfl) (de_var 1) (de_lst (mk := false) (da_cons (de_tup (da_cons (de_isN (y := "BadInner") (fun _ => hX) nam (fun _ => T.z_isinstance) (fun _ => rfl) (fun _ => rfl) (de_var 0)) (da_cons de_str da_nil))) (da_cons (de_tup (da_cons (de_isN (y := "BadBy") (fun _ => hX) nam (fun _ => T.z_isinstance) (fun _ => rfl) (fun _ => rfl) (de_var 0)) (da_cons de_str da_nil))) (da_cons (de_tup (da_cons (de_isN (y := "BadSpace") (fun _ => hX) nam (fun _ => T.z_isinstance) (fun _ => rfl) (fun _ => rfl) (de_var 0)) (da_cons de_str da_nil))) da_nil))))) (dg_name 1 (fun _ => S__law_bnamed.nd)))
    (dss_cons (ds_asg (de_add (mk := false) (fun _ => rfl) (de_var 1) (de_lst (mk := false) (da_cons (de_tup (da_cons (de_isN (y := "BadSecond") (fun _ => hX) nam (fun _ => T.z_isinstance) (fun _ => rfl) (fun _ => rfl) (de_var 0)) (da_cons de_str da_nil))) (da_cons (de_tup (da_cons (de_isN (y := "BadSize") (fun _ => hX) nam (fun _ => T.z_isinstance) (fun _ => rfl) (fun _ => rfl) (de_var 0)) (da_cons de_str da_nil))) (da_cons (de_tup (da_cons (de_isN (y := "BadPlace") (fun _ => hX) nam (fun _ => T.z_isinstance) (fun _ => rfl) (fun _ => rfl) (de_var 0)) (da_cons de_str da_nil))) da_nil))))) (dg_name 1 (fun _ => S__law_bnamed.nd)))
    (dss_cons (ds_setLcB (mk := false) N__law_bnamed (defScope s__law_bnamed) [("right", 4), ("word", 5)] 2 (blkOk_by (by decide +kernel)) (sub_by (by decide)) (fun _ => hot) (fun _ => S__law_bnamed.nd) (dib_list (fun _ => rfl) (de_var 1)) (dg_tupB (n := 2) (fun _ => rfl) (fun q => q.2) (dgs_cons (dg_name 4 (fun _ => S__law_bnamed.nd)) (dgs_cons (dg_name 5 (fun _ => S__law_bnamed.nd)) dgs_nil))) (dts_one (dt_val (de_var 4))) (de_var 5) rfl rfl (fun _ => sw_true rfl rfl rfl (by decide +kernel)))
    (dss_cons (ds_asg (de_lst (mk := false) (da_cons (de_tup (da_cons (de_isN (y := "BadRows") (fun _ => hX) nam (fun _ => T.z_isinstance) (fun _ => rfl) (fun _ => rfl) (de_var 0)) (da_cons de_str da_nil))) (da_cons (de_tup (da_cons (de_isN (y := "TooMany") (fun _ => hX) nam (fun _ => T.z_isinstance) (fun _ => rfl) (fun _ => rfl) (de_var 0)) (da_cons de_str da_nil))) da_nil))) (dg_name 3 (fun _ => S__law_bnamed.nd)))
    (dss_cons (ds_asg (de_add (mk := false) (fun _ => rfl) (de_var 2) (de_lcB (mk := false) N__law_bnamed (defScope s__law_bnamed) [("right", 4), ("word", 5)] (blkOk_by (by decide +kernel)) (sub_by (by decide)) (fun _ => hot) (fun _ => S__law_bnamed.nd) (dib_list (fun _ => rfl) (de_var 3)) (dg_tupB (n := 2) (fun _ => rfl) (fun q => q.2) (dgs_cons (dg_name 4 (fun _ => S__law_bnamed.nd)) (dgs_cons (dg_name 5 (fun _ => S__law_bnamed.nd)) dgs_nil))) (dts_one (dt_val (de_var 4))) (de_var 5))) (dg_name 2 (fun _ => S__law_bnamed.nd)))
    (dss_cons (ds_if (dt_cmp (or_neU (fun _ => rfl) (fun _ => hr)) opd_ne (de_callB (fun _ => call_bLen rfl) cd_len (fun _ => T.z_len) (da_cons (de_var 2) da_nil)) de_int rfl) (dss_one (ds_ret (de_tup (da_cons de_str (da_cons (de_var 2) da_nil))))) dss_nil)
    (dss_cons (ds_if (dt_cmp (or_eqU (fun _ => rfl) (fun _ => hr)) opd_eq (de_ix (fun _ => rfl) (de_var 2) de_int (fun _ _ => rfl)) de_str rfl) (dss_one (ds_ret (de_tup (da_cons de_str (da_cons (de_fldX (fun _ => hX) nam.ex (nam.no "index" (by decide)) (fun _ => rfl) (de_var 0)) da_nil))))) dss_nil)
    (dss_one (ds_ret (de_if (dt_cmp (or_eqU (fun _ => rfl) (fun _ => hr)) opd_eq (de_ix (fun _ => rfl) (de_var 2) de_int (fun _ _ => rfl)) de_str rfl) (de_tup (da_cons de_str (da_cons (de_fldX (fun _ => hX) nam.ex (nam.no "many" (by decide)) (fun _ => rfl) (de_var 0)) da_nil))) (de_tup (da_cons (de_ix (fun _ => rfl) (de_var 2) de_int (fun _ _ => rfl)) (da_cons (de_fldX (fun _ => hX) nam.ex (nam.no "thing" (by decide)) (fun _ => rfl) (de_var 0)) da_nil))))))))))))))))))
/-! ### _law_braised -/
abbrev N__law_braised : List Str := ["run", "found", "e"]
theorem S__law_braised : FnScope N__law_braised ["run"] (defScope s__law_braised) := ⟨rfl, rfl, rfl, by decide +kernel, rfl, by decide +kernel, by decide +kernel⟩
theorem c__law_braised (T : Top K mg cv) : CalF P w K mg base 6 "_law_braised" ["run"] (spRaised P w K mg base cv 5 (nmT nms)) := by
  obtain ⟨f, fd, F, hm, hb⟩ := T.d__law_braised.ex
  exact ⟨f, fd, ok_braised F S__law_braised rfl rfl rfl rfl rfl rfl T.fo.choose_spec.1 (c__law_bnamed T) (names1 (by decide +kernel)) T.fo.choose_spec.2 (by decide) (by decide), hm, F.kp, hb⟩
/-! ### _law_same -/
abbrev N__law_same : List Str := ["found", "due", "x", "y"]
theorem S__law_same : FnScope N__law_same ["found", "due"] (defScope s__law_same) := ⟨rfl, rfl, rfl, by decide +kernel, rfl, by decide +kernel, by decide +kernel⟩
theorem c__law_same (T : Top K mg cv) (n : Nat) : CalD P w K mg base cv (n + 0) "_law_same" 2 (f__law_same n) := by
  induction n with
  | zero =>
    rw [f__law_same_0]
    exact T.d__law_same.zero.mono (Nat.zero_le _)
  | succ n rec =>
    rw [Nat.add_right_comm, f__law_same_s]
    refine T.d__law_same.cal S__law_same fun f cdv A outer s H E hr => ?_
    have hx : Passes (L2N.CX P w) (cxOf (L2N.CX P w) P w K mg base N__law_same "_law_same" (defScope s__law_same) f cdv A outer s H E) E := L2N.passes_call (L2N.takes_of rfl rfl rfl rfl) (fun _ _ _ _ h => h)
    have hp : PassesOwn (model P w) (cxOf (L2N.CX P w) P w K mg base N__law_same "_law_same" (defScope s__law_same) f cdv A outer s H E).A (cxOf (L2N.CX P w) P w K mg base N__law_same "_law_same" (defScope s__law_same) f cdv A outer s H E).env (cxOf (L2N.CX P w) P w K mg base N__law_same "_law_same" (defScope s__law_same) f cdv A outer s H E).xe := passes_of rfl
    exact (dss_cons (ds_if (dt_val (de_callB (fun _ => CallR.or call_isiY call_isiTY) cd_isi (fun _ => T.z_isinstance) (da_cons (de_var 1) (da_cons (de_tup (da_cons (de_ty .lst (fun _ => T.z_list)) (da_cons (de_ty .tup (fun _ => T.z_tuple)) da_nil))) da_nil)))) (dss_cons (ds_if (DW.t (dw_or (dt_cmp (or_ne (fun _ => rfl) (fun _ => hr)) opd_ne (de_callB (fun _ => CallR.or call_isiY call_isiTY) cd_isi (fun _ => T.z_isinstance) (da_cons (de_var 0) (da_cons (de_ty .lst (fun _ => T.z_list)) da_nil))) (de_callB (fun _ => CallR.or call_isiY call_isiTY) cd_isi (fun _ => T.z_isinstance) (da_cons (de_var 1) (da_cons (de_ty .lst (fun _ => T.z_list)) da_nil))) rfl) (dw_or1 (dt_cmp (or_ne (fun _ => rfl) (fun _ => hr)) opd_ne (de_callB (fun _ => CallR.or call_isiY call_isiTY) cd_isi (fun _ => T.z_isinstance) (da_cons (de_var 0) (da_cons (de_ty .tup (fun _ => T.z_tuple)) da_nil))) (de_callB (fun _ => CallR.or call_isiY call_isiTY) cd_isi (fun _ => T.z_isinstance) (da_cons (de_var 1) (da_cons (de_ty .tup (fun _ => T.z_tuple)) da_nil))) rfl)))) (dss_one (ds_ret de_bl)) dss_nil)
    (dss_one (ds_ret (de_and (de_cmp (or_eq (fun _ => rfl) (fun _ => hr)) opd_eq (de_callB (fun _ => call_bLen rfl) cd_len (fun _ => T.z_len) (da_cons (de_var 0) da_nil)) (de_callB (fun _ => call_bLen rfl) cd_len (fun _ => T.z_len) (da_cons (de_var 1) da_nil)) rfl) (de_one (de_callB (fun _ => call_bAll rfl rfl) cd_all (fun _ => T.z_all) (da_cons (de_lc (mk := false) N__law_same (defScope s__law_same) [("x", 2), ("y", 3)] (blkOk_by (by decide +kernel)) (sub_by (by decide)) (fun _ => rfl) (fun _ => S__law_same.nd) (di_zip (fun _ => rfl) (fun _ => T.z_zip) (da_cons (de_var 0) (da_cons (de_var 1) da_nil))) (dg_tup (n := 2) (fun _ => rfl) (fun _ => rfl) (dgs_cons (dg_name 2 (fun _ => S__law_same.nd)) (dgs_cons (dg_name 3 (fun _ => S__law_same.nd)) dgs_nil))) dts_nil (de_call (fun _ => rec) (fun _ => hr) (fun _ => pass0N) (fun _ => rfl) (da_cons (de_var 2) (da_cons (de_var 3) da_nil)))) da_nil))))))) dss_nil)
    (dss_cons (ds_if (dt_val (de_callB (fun _ => CallR.or call_isiY call_isiTY) cd_isi (fun _ => T.z_isinstance) (da_cons (de_var 1) (da_cons (de_ty .dct (fun _ => T.z_dict)) da_nil)))) (dss_one (ds_ret (de_and (de_callB (fun _ => CallR.or call_isiY call_isiTY) cd_isi (fun _ => T.z_isinstance) (da_cons (de_var 0) (da_cons (de_ty .dct (fun _ => T.z_dict)) da_nil))) (de_one (de_call (fun _ => rec) (fun _ => hr) (fun _ => hx) (fun _ => rfl) (da_cons (de_callTy (fun _ => call_bList rfl rfl) (cd_list (mk := false)) (fun _ => T.z_list) (da_cons DE.never da_nil)) (da_cons (de_callTy (fun _ => call_bList rfl rfl) (cd_list (mk := false)) (fun _ => T.z_list) (da_cons DE.never da_nil)) da_nil))))))) dss_nil)
    (dss_cons (ds_if (dt_val (de_callB (fun _ => CallR.or call_isiY call_isiTY) cd_isi (fun _ => T.z_isinstance) (da_cons (de_var 1) (da_cons (de_ty .int (fun _ => T.z_int)) da_nil)))) (dss_one (ds_ret (de_and (de_callB (fun _ => CallR.or call_isiY call_isiTY) cd_isi (fun _ => T.z_isinstance) (da_cons (de_var 0) (da_cons (de_ty .int (fun _ => T.z_int)) da_nil))) (de_and (de_cmp (or_eq (fun _ => rfl) (fun _ => hr)) opd_eq (de_callB (fun _ => CallR.or call_isiY call_isiTY) cd_isi (fun _ => T.z_isinstance) (da_cons (de_var 0) (da_cons (de_ty .bl (fun _ => T.z_bool)) da_nil))) (de_callB (fun _ => CallR.or call_isiY call_isiTY) cd_isi (fun _ => T.z_isinstance) (da_cons (de_var 1) (da_cons (de_ty .bl (fun _ => T.z_bool)) da_nil))) rfl) (de_one (de_cmp (or_eq (fun _ => rfl) (fun _ => hr)) opd_eq (de_var 0) (de_var 1) rfl)))))) dss_nil)
    (dss_cons (ds_if (dt_cmp or_is opd_is (de_var 1) de_non rfl) (dss_one (ds_ret (de_cmp or_is opd_is (de_var 0) de_non rfl))) dss_nil)
    (dss_cons (ds_if (dt_val (de_callB (fun _ => CallR.or call_isiY call_isiTY) cd_isi (fun _ => T.z_isinstance) (da_cons (de_var 1) (da_cons (de_ty .str (fun _ => T.z_str)) da_nil)))) (dss_one (ds_ret (de_and (de_callB (fun _ => CallR.or call_isiY call_isiTY) cd_isi (fun _ => T.z_isinstance) (da_cons (de_var 0) (da_cons (de_ty .str (fun _ => T.z_str)) da_nil))) (de_one (de_cmp (or_eq (fun _ => rfl) (fun _ => hr)) opd_eq (de_var 0) (de_var 1) rfl))))) dss_nil)
    (dss_one (ds_ret (de_and (de_not (de_callB (fun _ => CallR.or call_isiY call_isiTY) cd_isi (fun _ => T.z_isinstance) (da_cons (de_var 0) (da_cons (de_tup (da_cons (de_ty .int (fun _ => T.z_int)) (da_cons (de_ty .str (fun _ => T.z_str)) (da_cons (de_ty .lst (fun _ => T.z_list)) (da_cons (de_ty .tup (fun _ => T.z_tuple)) (da_cons (de_ty .dct (fun _ => T.z_dict)) da_nil)))))) da_nil)))) (de_one (de_cmp (or_eq (fun _ => rfl) (fun _ => hr)) opd_eq (de_var 0) (de_var 1) rfl))))))))))
/-! ### _law_brefuses -/
abbrev N__law_brefuses : List Str := ["word", "thing", "run", "found"]
theorem S__law_brefuses : FnScope N__law_brefuses ["word", "thing", "run"] (defScope s__law_brefuses) := ⟨rfl, rfl, rfl, by decide +kernel, rfl, by decide +kernel, by decide +kernel⟩
theorem c__law_brefuses (T : Top K mg cv) : CalF P w K mg base 7 "_law_brefuses" ["word", "thing", "run"] (spRefuses P w K mg base cv 5 (nmT nms) m__law_brefuses) := by
  obtain ⟨f, fd, F, hm, hb⟩ := T.d__law_brefuses.ex
  refine ⟨f, fd, ok_brefuses (j := 6) F S__law_brefuses rfl rfl rfl rfl (c__law_braised T) (by decide) (fun cdv A outer s H E hr => ?_), hm, F.kp, hb⟩
  have hx : Passes (L2N.CX P w) (cxOf (L2N.CX P w) P w K mg base N__law_brefuses "_law_brefuses" (defScope s__law_brefuses) f cdv A outer s H E) E := L2N.passes_call (L2N.takes_of rfl rfl rfl rfl) (fun _ _ _ _ h => h)
  have hp : PassesOwn (model P w) (cxOf (L2N.CX P w) P w K mg base N__law_brefuses "_law_brefuses" (defScope s__law_brefuses) f cdv A outer s H E).A (cxOf (L2N.CX P w) P w K mg base N__law_brefuses "_law_brefuses" (defScope s__law_brefuses) f cdv A outer s H E).env (cxOf (L2N.CX P w) P w K mg base N__law_brefuses "_law_brefuses" (defScope s__law_brefuses) f cdv A outer s H E).xe := passes_of rfl
  exact (dss_one (ds_ret (de_and (de_cmp or_isNot opd_isNot (de_var 3) de_non rfl) (de_and (de_cmp (or_eq (fun _ => rfl) (fun _ => hr)) opd_eq (de_ix (fun _ => rfl) (de_var 3) de_int (fun _ _ => rfl)) (de_var 0) rfl) (de_one (de_call (fun _ => (c__law_same T 6)) (fun _ => hr) (fun _ => hx) (fun _ => rfl) (da_cons (de_ix (fun _ => rfl) (de_var 3) de_int (fun _ _ => rfl)) (da_cons (de_var 1) da_nil))))))))
/-! ### _law_bvalue -/
abbrev N__law_bvalue : List Str := ["equation", "x", "part", "value"]
theorem S__law_bvalue : FnScope N__law_bvalue ["equation", "x"] (defScope s__law_bvalue) := ⟨rfl, rfl, rfl, by decide +kernel, rfl, by decide +kernel, by decide +kernel⟩
def p__law_bvalue_e1 (δ : DL.Env) : M RV :=
  (ev2 (opMul false) (evVar 2) (evVar 3)) δ
def m__law_bvalue (δ : DL.Env) : M (Fl × DL.Env) :=
  (evRet (evCall bSum (evCons (evLc false [2, 3] (evZip (evCons (evVar 0) (evCons (evCallF 1 f__law_blift (evCons (evVar 1) evNil)) evNil))) (gtUnp 2 (gtCons (gtName 2) (gtCons (gtName 3) gtNil))) evYes p__law_bvalue_e1) evNil))) δ
@[irreducible] def f__law_bvalue : List RV → M RV := fnD 4 m__law_bvalue
theorem c__law_bvalue (T : Top K mg cv) : CalD P w K mg base cv 3 "_law_bvalue" 2 f__law_bvalue := by
  unfold f__law_bvalue
  refine T.d__law_bvalue.cal S__law_bvalue fun f cdv A outer s H E hr => ?_
  have hx : Passes (L2N.CX P w) (cxOf (L2N.CX P w) P w K mg base N__law_bvalue "_law_bvalue" (defScope s__law_bvalue) f cdv A outer s H E) E := L2N.passes_call (L2N.takes_of rfl rfl rfl rfl) (fun _ _ _ _ h => h)
  have hp : PassesOwn (model P w) (cxOf (L2N.CX P w) P w K mg base N__law_bvalue "_law_bvalue" (defScope s__law_bvalue) f cdv A outer s H E).A (cxOf (L2N.CX P w) P w K mg base N__law_bvalue "_law_bvalue" (defScope s__law_bvalue) f cdv A outer s H E).env (cxOf (L2N.CX P w) P w K mg base N__law_bvalue "_law_bvalue" (defScope s__law_bvalue) f cdv A outer s H E).xe := passes_of rfl
  exact (dss_one (ds_ret (de_callB (fun _ => call_bSum rfl rfl) cd_sum (fun _ => T.z_sum) (da_cons (de_lc (mk := false) N__law_bvalue (defScope s__law_bvalue) [("part", 2), ("value", 3)] (blkOk_by (by decide +kernel)) (sub_by (by decide)) (fun _ => rfl) (fun _ => S__law_bvalue.nd) (di_zip (fun _ => rfl) (fun _ => T.z_zip) (da_cons (de_var 0) (da_cons (de_call (fun _ => (c__law_blift T)) (fun _ => hr) (fun _ => hx) (fun _ => rfl) (da_cons (de_var 1) da_nil)) da_nil))) (dg_tup (n := 2) (fun _ => rfl) (fun _ => rfl) (dgs_cons (dg_name 2 (fun _ => S__law_bvalue.nd)) (dgs_cons (dg_name 3 (fun _ => S__law_bvalue.nd)) dgs_nil))) dts_nil (de_mul (mk := false) (de_var 2) (de_var 3))) da_nil))))
/-! ### _law_mixed -/
abbrev N__law_mixed : List Str := ["stream", "some", "left", "k"]
theorem S__law_mixed : FnScope N__law_mixed ["stream", "some"] (defScope s__law_mixed) := ⟨rfl, rfl, rfl, by decide +kernel, rfl, by decide +kernel, by decide +kernel⟩
theorem c__law_mixed (T : Top K mg cv) : CalD P w K mg base cv 2 "_law_mixed" 2 f__law_mixed := by
  unfold f__law_mixed
  refine T.d__law_mixed.cal S__law_mixed fun f cdv A outer s H E hr => ?_
  have hx : Passes (L2N.CX P w) (cxOf (L2N.CX P w) P w K mg base N__law_mixed "_law_mixed" (defScope s__law_mixed) f cdv A outer s H E) E := L2N.passes_call (L2N.takes_of rfl rfl rfl rfl) (fun _ _ _ _ h => h)
  have hp : PassesOwn (model P w) (cxOf (L2N.CX P w) P w K mg base N__law_mixed "_law_mixed" (defScope s__law_mixed) f cdv A outer s H E).A (cxOf (L2N.CX P w) P w K mg base N__law_mixed "_law_mixed" (defScope s__law_mixed) f cdv A outer s H E).env (cxOf (L2N.CX P w) P w K mg base N__law_mixed "_law_mixed" (defScope s__law_mixed) f cdv A outer s H E).xe := passes_of rfl
  exact (dss_cons (ds_asg (de_callTy (fun _ => call_bList rfl rfl) (cd_list (mk := true)) (fun _ => T.z_list) (da_cons (de_var 1) da_nil)) (dg_name 2 (fun _ => S__law_mixed.nd)))
    (dss_one (ds_ret (de_lc (mk := false) N__law_mixed (defScope s__law_mixed) [("k", 3)] (blkOk_by (by decide +kernel)) (sub_by (by decide)) (fun _ => rfl) (fun _ => S__law_mixed.nd) (di_range1 (fun _ => T.z_range) (da_cons (de_callB (fun _ => call_bLen rfl) cd_len (fun _ => T.z_len) (da_cons (de_var 2) da_nil)) da_nil)) (dg_name 3 (fun _ => S__law_mixed.nd)) dts_nil (de_mthL (fun _ => rfl) PySem.F.slot_list_pop PySem.F.type_list_pop (fun _ => mt_popAt) md_pop (de_var 2) (da_cons (de_call (fun _ => (c__law_below T)) (fun _ => hr) (fun _ => pass0N) (fun _ => rfl) (da_cons (de_var 0) (da_cons (de_callB (fun _ => call_bLen rfl) cd_len (fun _ => T.z_len) (da_cons (de_var 2) da_nil)) da_nil))) da_nil))))))
/-! ### _law_loose -/
abbrev N__law_loose : List Str := ["stream", "thing", "found", "key", "part"]
theorem S__law_loose : FnScope N__law_loose ["stream", "thing"] (defScope s__law_loose) := ⟨rfl, rfl, rfl, by decide +kernel, rfl, by decide +kernel, by decide +kernel⟩
def p__law_loose_e1 (rec : List RV → M RV) (δ : DL.Env) : M RV :=
  (evCallF 2 rec (evCons (evVar 0) (evCons (evVar 4) evNil))) δ
def m__law_loose (rec : List RV → M RV) (δ : DL.Env) : M (Fl × DL.Env) :=
  (evSeq (evIfS (evB (evCall bIsi (evCons (evVar 1) (evCons (cT .dct) evNil)))) (evRet evNever) evNext)
    (evSeq (evIfS (evNotT (evB (evCall bIsi (evCons (evVar 1) (evCons (evTup (evCons (cT .lst) (evCons (cT .tup) evNil))) evNil))))) (evRet (evVar 1)) evNext)
    (evSeq (evAsg (evLc false [4] (evIter (evVar 1)) (gtName 4) evYes (p__law_loose_e1 rec)) (gtName 2))
    (evRet (evIf (evB (ev2 (opEq false) (evCallF 2 f__law_below (evCons (evVar 0) (evCons (cI 2) evNil))) (cI 0))) (evVar 2) (evCall bTuple (evCons (evVar 2) evNil))))))) δ
@[irreducible] def f__law_loose (n : Nat) : List RV → M RV := Nat.rec (fun _ => M.fail) (fun _ r => fnD 5 (m__law_loose r)) n
theorem f__law_loose_0 : f__law_loose 0 = fun _ => M.fail := by unfold f__law_loose; rfl
theorem f__law_loose_s (n : Nat) : f__law_loose (n + 1) = fnD 5 (m__law_loose (f__law_loose n)) := by unfold f__law_loose; rfl
theorem c__law_loose (T : Top K mg cv) (n : Nat) : CalD P w K mg base cv (n + 2) "_law_loose" 2 (f__law_loose n) := by
  induction n with
  | zero =>
    rw [f__law_loose_0]
    exact T.d__law_loose.zero.mono (Nat.zero_le _)
  | succ n rec =>
    rw [Nat.add_right_comm, f__law_loose_s]
    refine T.d__law_loose.cal S__law_loose fun f cdv A outer s H E hr => ?_
    have hx : Passes (L2N.CX P w) (cxOf (L2N.CX P w) P w K mg base N__law_loose "_law_loose" (defScope s__law_loose) f cdv A outer s H E) E := L2N.passes_call (L2N.takes_of rfl rfl rfl rfl) (fun _ _ _ _ h => h)
    have hp : PassesOwn (model P w) (cxOf (L2N.CX P w) P w K mg base N__law_loose "_law_loose" (defScope s__law_loose) f cdv A outer s H E).A (cxOf (L2N.CX P w) P w K mg base N__law_loose "_law_loose" (defScope s__law_loose) f cdv A outer s H E).env (cxOf (L2N.CX P w) P w K mg base N__law_loose "_law_loose" (defScope s__law_loose) f cdv A outer s H E).xe := passes_of rfl
    exact (dss_cons (ds_if (dt_val (de_callB (fun _ => CallR.or call_isiY call_isiTY) cd_isi (fun _ => T.z_isinstance) (da_cons (de_var 1) (da_cons (de_ty .dct (fun _ => T.z_dict)) da_nil)))) (dss_one (ds_ret DE.never)) dss_nil)
    (dss_cons (ds_if (dt_not (dt_val (de_callB (fun _ => CallR.or call_isiY call_isiTY) cd_isi (fun _ => T.z_isinstance) (da_cons (de_var 1) (da_cons (de_tup (da_cons (de_ty .lst (fun _ => T.z_list)) (da_cons (de_ty .tup (fun _ => T.z_tuple)) da_nil))) da_nil))))) (dss_one (ds_ret (de_var 1))) dss_nil)
    (dss_cons (ds_setLc (mk := false) N__law_loose (defScope s__law_loose) [("part", 4)] 2 (blkOk_by (by decide +kernel)) (sub_by (by decide)) (fun _ => rfl) (fun _ => S__law_loose.nd) (di_any (fun _ => rfl) (de_var 1)) (dg_name 4 (fun _ => S__law_loose.nd)) dts_nil (de_call (fun _ => rec) (fun _ => hr) (fun _ => pass0N) (fun _ => rfl) (da_cons (de_var 0) (da_cons (de_var 4) da_nil))) rfl rfl (fun _ => sw_true rfl rfl rfl (by decide +kernel)))
    (dss_one (ds_ret (de_if (dt_cmp (or_eq (fun _ => rfl) (fun _ => hr)) opd_eq (de_call (fun _ => (c__law_below T)) (fun _ => hr) (fun _ => hx) (fun _ => rfl) (da_cons (de_var 0) (da_cons de_int da_nil))) de_int rfl) (de_var 2) (de_callTy (fun _ => call_bTuple rfl) cd_tuple (fun _ => T.z_tuple) (da_cons (de_var 2) da_nil))))))))
/-! ### _law_pick -/
abbrev N__law_pick : List Str := ["stream", "some"]
theorem S__law_pick : FnScope N__law_pick ["stream", "some"] (defScope s__law_pick) := ⟨rfl, rfl, rfl, by decide +kernel, rfl, by decide +kernel, by decide +kernel⟩
theorem c__law_pick (T : Top K mg cv) : CalD P w K mg base cv 2 "_law_pick" 2 f__law_pick := by
  unfold f__law_pick
  refine T.d__law_pick.cal S__law_pick fun f cdv A outer s H E hr => ?_
  have hx : Passes (L2N.CX P w) (cxOf (L2N.CX P w) P w K mg base N__law_pick "_law_pick" (defScope s__law_pick) f cdv A outer s H E) E := L2N.passes_call (L2N.takes_of rfl rfl rfl rfl) (fun _ _ _ _ h => h)
  have hp : PassesOwn (model P w) (cxOf (L2N.CX P w) P w K mg base N__law_pick "_law_pick" (defScope s__law_pick) f cdv A outer s H E).A (cxOf (L2N.CX P w) P w K mg base N__law_pick "_law_pick" (defScope s__law_pick) f cdv A outer s H E).env (cxOf (L2N.CX P w) P w K mg base N__law_pick "_law_pick" (defScope s__law_pick) f cdv A outer s H E).xe := passes_of rfl
  exact (dss_one (ds_ret (de_ix (fun _ => rfl) (de_var 1) (de_call (fun _ => (c__law_below T)) (fun _ => hr) (fun _ => hx) (fun _ => rfl) (da_cons (de_var 0) (da_cons (de_callB (fun _ => call_bLen rfl) cd_len (fun _ => T.z_len) (da_cons (de_var 1) da_nil)) da_nil))) (fun _ _ => rfl))))
/-! ### pairs_of -/
abbrev N_pairs_of : List Str := ["many", "one", "two"]
theorem S_pairs_of : FnScope N_pairs_of ["many"] (defScope s_pairs_of) := ⟨rfl, rfl, rfl, by decide +kernel, rfl, by decide +kernel, by decide +kernel⟩
def p_pairs_of_e1 (δ : DL.Env) : M RV :=
  (evTup (evCons (evVar 1) (evCons (evVar 2) evNil))) δ
def p_pairs_of_i2 (δ : DL.Env) : M (List D) :=
  (evRange2 (evCons (evVar 1) (evCons (ev2 (opAdd true) (evVar 0) (cI 1)) evNil))) δ
def m_pairs_of (δ : DL.Env) : M (Fl × DL.Env) :=
  (evRet (evLc2 true [1, 2] [2] (evRange1 (evCons (ev2 (opAdd true) (evVar 0) (cI 1)) evNil)) (gtName 1) evYes p_pairs_of_i2 (gtName 2) evYes p_pairs_of_e1)) δ
@[irreducible] def f_pairs_of : List RV → M RV := fnD 3 m_pairs_of
theorem c_pairs_of (T : Top K mg cv) : CalD P w K mg base cv 1 "pairs_of" 1 f_pairs_of := by
  unfold f_pairs_of
  refine T.d_pairs_of.cal S_pairs_of fun f cdv A outer s H E hr => ?_
  have hx : Passes (L2N.CX P w) (cxOf (L2N.CX P w) P w K mg base N_pairs_of "pairs_of" (defScope s_pairs_of) f cdv A outer s H E) E := L2N.passes_call (L2N.takes_of rfl rfl rfl rfl) (fun _ _ _ _ h => h)
  have hp : PassesOwn (model P w) (cxOf (L2N.CX P w) P w K mg base N_pairs_of "pairs_of" (defScope s_pairs_of) f cdv A outer s H E).A (cxOf (L2N.CX P w) P w K mg base N_pairs_of "pairs_of" (defScope s_pairs_of) f cdv A outer s H E).env (cxOf (L2N.CX P w) P w K mg base N_pairs_of "pairs_of" (defScope s_pairs_of) f cdv A outer s H E).xe := passes_of rfl
  exact (dss_one (ds_ret (de_lc2 (mk := true) N_pairs_of (defScope s_pairs_of) [("one", 1), ("two", 2)] (blkOk_by (by decide +kernel)) (sub_by (by decide)) (sub_by (by decide)) (fun _ => rfl) (fun _ => S_pairs_of.nd) (di_range1 (fun _ => T.z_range) (da_cons (de_add (mk := true) (fun _ => rfl) (de_var 0) de_int) da_nil)) (dg_name 1 (fun _ => S_pairs_of.nd)) dts_nil (di_range2 (fun _ => T.z_range) (da_cons (de_var 1) (da_cons (de_add (mk := true) (fun _ => rfl) (de_var 0) de_int) da_nil))) (dg_name 2 (fun _ => S_pairs_of.nd)) dts_nil (de_tup (da_cons (de_var 1) (da_cons (de_var 2) da_nil))))))
/-! ### lift_of -/
abbrev N_lift_of : List Str := ["registers", "row", "one", "two"]
theorem S_lift_of : FnScope N_lift_of ["registers"] (defScope s_lift_of) := ⟨rfl, rfl, rfl, by decide +kernel, rfl, by decide +kernel, by decide +kernel⟩
def p_lift_of_e1 (δ : DL.Env) : M RV :=
  (ev2 (opMul true) (ev2 opIx (evVar 1) (evVar 2)) (ev2 opIx (evVar 1) (evVar 3))) δ
def m_lift_of (δ : DL.Env) : M (Fl × DL.Env) :=
  (evSeq (evAsg (ev2 (opAdd true) (evTup (evCons (cI 1) evNil)) (evCall bTuple (evCons (evVar 0) evNil))) (gtName 1))
    (evRet (evLc true [2, 3] (evIter (evCallF 1 f_pairs_of (evCons (evCall bLen (evCons (evVar 0) evNil)) evNil))) (gtUnp 2 (gtCons (gtName 2) (gtCons (gtName 3) gtNil))) evYes p_lift_of_e1))) δ
@[irreducible] def f_lift_of : List RV → M RV := fnD 4 m_lift_of
theorem c_lift_of (T : Top K mg cv) : CalD P w K mg base cv 2 "lift_of" 1 f_lift_of := by
  unfold f_lift_of
  refine T.d_lift_of.cal S_lift_of fun f cdv A outer s H E hr => ?_
  have hx : Passes (L2N.CX P w) (cxOf (L2N.CX P w) P w K mg base N_lift_of "lift_of" (defScope s_lift_of) f cdv A outer s H E) E := L2N.passes_call (L2N.takes_of rfl rfl rfl rfl) (fun _ _ _ _ h => h)
  have hp : PassesOwn (model P w) (cxOf (L2N.CX P w) P w K mg base N_lift_of "lift_of" (defScope s_lift_of) f cdv A outer s H E).A (cxOf (L2N.CX P w) P w K mg base N_lift_of "lift_of" (defScope s_lift_of) f cdv A outer s H E).env (cxOf (L2N.CX P w) P w K mg base N_lift_of "lift_of" (defScope s_lift_of) f cdv A outer s H E).xe := passes_of rfl
  exact (dss_cons (ds_asg (de_add (mk := true) (fun _ => rfl) (de_tup (da_cons de_int da_nil)) (de_callTy (fun _ => call_bTuple rfl) cd_tuple (fun _ => T.z_tuple) (da_cons (de_var 0) da_nil))) (dg_name 1 (fun _ => S_lift_of.nd)))
    (dss_one (ds_ret (de_lc (mk := true) N_lift_of (defScope s_lift_of) [("one", 2), ("two", 3)] (blkOk_by (by decide +kernel)) (sub_by (by decide)) (fun _ => rfl) (fun _ => S_lift_of.nd) (di_any (fun _ => rfl) (de_call (fun _ => (c_pairs_of T)) (fun _ => hr) (fun _ => hx) (fun _ => rfl) (da_cons (de_callB (fun _ => call_bLen rfl) cd_len (fun _ => T.z_len) (da_cons (de_var 0) da_nil)) da_nil))) (dg_tup (n := 2) (fun _ => rfl) (fun _ => rfl) (dgs_cons (dg_name 2 (fun _ => S_lift_of.nd)) (dgs_cons (dg_name 3 (fun _ => S_lift_of.nd)) dgs_nil))) dts_nil (de_mul (mk := true) (de_ix (fun _ => rfl) (de_var 1) (de_var 2) (fun _ _ => rfl)) (de_ix (fun _ => rfl) (de_var 1) (de_var 3) (fun _ _ => rfl)))))))
/-! ### is_integer -/
abbrev N_is_integer : List Str := ["thing"]
theorem S_is_integer : FnScope N_is_integer ["thing"] (defScope s_is_integer) := ⟨rfl, rfl, rfl, by decide +kernel, rfl, by decide +kernel, by decide +kernel⟩
def m_is_integer (δ : DL.Env) : M (Fl × DL.Env) :=
  (evRet (evAnd (evCall bIsi (evCons (evVar 0) (evCons (cT .int) evNil))) (evNot (evCall bIsi (evCons (evVar 0) (evCons (cT .bl) evNil)))))) δ
@[irreducible] def f_is_integer : List RV → M RV := fnD 1 m_is_integer
theorem c_is_integer (T : Top K mg cv) : CalD P w K mg base cv 1 "is_integer" 1 f_is_integer := by
  unfold f_is_integer
  refine T.d_is_integer.cal S_is_integer fun f cdv A outer s H E hr => ?_
  have hx : Passes (L2N.CX P w) (cxOf (L2N.CX P w) P w K mg base N_is_integer "is_integer" (defScope s_is_integer) f cdv A outer s H E) E := L2N.passes_call (L2N.takes_of rfl rfl rfl rfl) (fun _ _ _ _ h => h)
  have hp : PassesOwn (model P w) (cxOf (L2N.CX P w) P w K mg base N_is_integer "is_integer" (defScope s_is_integer) f cdv A outer s H E).A (cxOf (L2N.CX P w) P w K mg base N_is_integer "is_integer" (defScope s_is_integer) f cdv A outer s H E).env (cxOf (L2N.CX P w) P w K mg base N_is_integer "is_integer" (defScope s_is_integer) f cdv A outer s H E).xe := passes_of rfl
  exact (dss_one (ds_ret (de_and (de_callB (fun _ => CallR.or call_isiY call_isiTY) cd_isi (fun _ => T.z_isinstance) (da_cons (de_var 0) (da_cons (de_ty .int (fun _ => T.z_int)) da_nil))) (de_one (de_not (de_callB (fun _ => CallR.or call_isiY call_isiTY) cd_isi (fun _ => T.z_isinstance) (da_cons (de_var 0) (da_cons (de_ty .bl (fun _ => T.z_bool)) da_nil))))))))
/-! ### is_row -/
abbrev N_is_row : List Str := ["thing", "size", "part"]
theorem S_is_row : FnScope N_is_row ["thing", "size"] (defScope s_is_row) := ⟨rfl, rfl, rfl, by decide +kernel, rfl, by decide +kernel, by decide +kernel⟩
def p_is_row_e1 (δ : DL.Env) : M RV :=
  (evCallF 1 f_is_integer (evCons (evVar 2) evNil)) δ
def m_is_row (δ : DL.Env) : M (Fl × DL.Env) :=
  (evSeq (evIfS (evOrT (evNotT (evB (evCall bIsi (evCons (evVar 0) (evCons (evTup (evCons (cT .lst) (evCons (cT .tup) evNil))) evNil))))) (evB (ev2 (opEq true) (evCall bLen (evCons (evVar 0) evNil)) (evVar 1)))) (evRet (cB false)) evNext)
    (evRet (evCall bAll (evCons (evLc false [2] (evIter (evVar 0)) (gtName 2) evYes p_is_row_e1) evNil)))) δ
@[irreducible] def f_is_row : List RV → M RV := fnD 3 m_is_row
theorem c_is_row (T : Top K mg cv) : CalD P w K mg base cv 2 "is_row" 2 f_is_row := by
  unfold f_is_row
  refine T.d_is_row.cal S_is_row fun f cdv A outer s H E hr => ?_
  have hx : Passes (L2N.CX P w) (cxOf (L2N.CX P w) P w K mg base N_is_row "is_row" (defScope s_is_row) f cdv A outer s H E) E := L2N.passes_call (L2N.takes_of rfl rfl rfl rfl) (fun _ _ _ _ h => h)
  have hp : PassesOwn (model P w) (cxOf (L2N.CX P w) P w K mg base N_is_row "is_row" (defScope s_is_row) f cdv A outer s H E).A (cxOf (L2N.CX P w) P w K mg base N_is_row "is_row" (defScope s_is_row) f cdv A outer s H E).env (cxOf (L2N.CX P w) P w K mg base N_is_row "is_row" (defScope s_is_row) f cdv A outer s H E).xe := passes_of rfl
  exact (dss_cons (ds_if (DW.t (dw_or (dt_not (dt_val (de_callB (fun _ => CallR.or call_isiY call_isiTY) cd_isi (fun _ => T.z_isinstance) (da_cons (de_var 0) (da_cons (de_tup (da_cons (de_ty .lst (fun _ => T.z_list)) (da_cons (de_ty .tup (fun _ => T.z_tuple)) da_nil))) da_nil))))) (dw_or1 (dt_cmp (or_ne (fun _ => rfl) (fun _ => hr)) opd_ne (de_callB (fun _ => call_bLen rfl) cd_len (fun _ => T.z_len) (da_cons (de_var 0) da_nil)) (de_var 1) rfl)))) (dss_one (ds_ret de_bl)) dss_nil)
    (dss_one (ds_ret (de_callB (fun _ => call_bAll rfl rfl) cd_all (fun _ => T.z_all) (da_cons (de_lc (mk := false) N_is_row (defScope s_is_row) [("part", 2)] (blkOk_by (by decide +kernel)) (sub_by (by decide)) (fun _ => rfl) (fun _ => S_is_row.nd) (di_any (fun _ => rfl) (de_var 0)) (dg_name 2 (fun _ => S_is_row.nd)) dts_nil (de_call (fun _ => (c_is_integer T)) (fun _ => hr) (fun _ => pass0N) (fun _ => rfl) (da_cons (de_var 2) da_nil))) da_nil)))))
/-! ### need_registers -/
abbrev N_need_registers : List Str := ["registers", "least", "most"]
theorem S_need_registers : FnScope N_need_registers ["registers", "least", "most"] (defScope s_need_registers) := ⟨rfl, rfl, rfl, by decide +kernel, rfl, by decide +kernel, by decide +kernel⟩
def m_need_registers (δ : DL.Env) : M (Fl × DL.Env) :=
  (evSeq (evIfS (evOrT (evNotT (evB (evCall bIsi (evCons (evVar 0) (evCons (evTup (evCons (cT .lst) (evCons (cT .tup) evNil))) evNil))))) (evNotT (evB (evChain (fun i j => decide (i ≤ j)) (fun i j => decide (i ≤ j)) (evVar 1) (evCall bLen (evCons (evVar 0) evNil)) (evVar 2))))) (evRaise "BadRegisters" "thing" (evVar 0)) evNext)
    (evSeq (evIfS (evNotT (evB (evCallF 2 f_is_row (evCons (evVar 0) (evCons (evCall bLen (evCons (evVar 0) evNil)) evNil))))) (evRaise "BadRegisters" "thing" (evVar 0)) evNext)
    (evRet (evVar 0)))) δ
@[irreducible] def f_need_registers : List RV → M RV := fnD 3 m_need_registers
theorem c_need_registers (T : Top K mg cv) : CalD P w K mg base cv 3 "need_registers" 3 f_need_registers := by
  unfold f_need_registers
  refine T.d_need_registers.cal S_need_registers fun f cdv A outer s H E hr => ?_
  have hx : Passes (L2N.CX P w) (cxOf (L2N.CX P w) P w K mg base N_need_registers "need_registers" (defScope s_need_registers) f cdv A outer s H E) E := L2N.passes_call (L2N.takes_of rfl rfl rfl rfl) (fun _ _ _ _ h => h)
  have hp : PassesOwn (model P w) (cxOf (L2N.CX P w) P w K mg base N_need_registers "need_registers" (defScope s_need_registers) f cdv A outer s H E).A (cxOf (L2N.CX P w) P w K mg base N_need_registers "need_registers" (defScope s_need_registers) f cdv A outer s H E).env (cxOf (L2N.CX P w) P w K mg base N_need_registers "need_registers" (defScope s_need_registers) f cdv A outer s H E).xe := passes_of rfl
  exact (dss_cons (ds_if (DW.t (dw_or (dt_not (dt_val (de_callB (fun _ => CallR.or call_isiY call_isiTY) cd_isi (fun _ => T.z_isinstance) (da_cons (de_var 0) (da_cons (de_tup (da_cons (de_ty .lst (fun _ => T.z_list)) (da_cons (de_ty .tup (fun _ => T.z_tuple)) da_nil))) da_nil))))) (dw_or1 (dt_not (dt_chain (fun _ => op_le) (fun _ => op_le) (de_var 1) (de_callB (fun _ => call_bLen rfl) cd_len (fun _ => T.z_len) (da_cons (de_var 0) da_nil)) (de_var 2)))))) (dss_one (ds_raise (f := "thing") (G := ⟨K, E, cv⟩) T.rai_BadRegisters.choose_spec.1 (fun _ => T.rai_BadRegisters.choose_spec.2 _ _ _) (fun _ => hr) (fun _ => pass0N) (fun _ => L2N.takes_of rfl rfl rfl rfl) (fun _ => rfl) (fun _ => rfl) (de_var 0))) dss_nil)
    (dss_cons (ds_if (dt_not (dt_val (de_call (fun _ => (c_is_row T)) (fun _ => hr) (fun _ => hx) (fun _ => rfl) (da_cons (de_var 0) (da_cons (de_callB (fun _ => call_bLen rfl) cd_len (fun _ => T.z_len) (da_cons (de_var 0) da_nil)) da_nil))))) (dss_one (ds_raise (f := "thing") (G := ⟨K, E, cv⟩) T.rai_BadRegisters.choose_spec.1 (fun _ => T.rai_BadRegisters.choose_spec.2 _ _ _) (fun _ => hr) (fun _ => pass0N) (fun _ => L2N.takes_of rfl rfl rfl rfl) (fun _ => rfl) (fun _ => rfl) (de_var 0))) dss_nil)
    (dss_one (ds_ret (de_var 0)))))
/-! ### lift -/
abbrev N_lift : List Str := ["registers"]
theorem S_lift : FnScope N_lift ["registers"] (defScope s_lift) := ⟨rfl, rfl, rfl, by decide +kernel, rfl, by decide +kernel, by decide +kernel⟩
def m_lift (δ : DL.Env) : M (Fl × DL.Env) :=
  (evRet (evCallF 1 f_lift_of (evCons (evCallF 3 f_need_registers (evCons (evVar 0) (evCons (cI 1) (evCons (cI 3) evNil)))) evNil))) δ
@[irreducible] def f_lift : List RV → M RV := fnD 1 m_lift
theorem c_lift (T : Top K mg cv) : CalD P w K mg base cv 4 "lift" 1 f_lift := by
  unfold f_lift
  refine T.d_lift.cal S_lift fun f cdv A outer s H E hr => ?_
  have hx : Passes (L2N.CX P w) (cxOf (L2N.CX P w) P w K mg base N_lift "lift" (defScope s_lift) f cdv A outer s H E) E := L2N.passes_call (L2N.takes_of rfl rfl rfl rfl) (fun _ _ _ _ h => h)
  have hp : PassesOwn (model P w) (cxOf (L2N.CX P w) P w K mg base N_lift "lift" (defScope s_lift) f cdv A outer s H E).A (cxOf (L2N.CX P w) P w K mg base N_lift "lift" (defScope s_lift) f cdv A outer s H E).env (cxOf (L2N.CX P w) P w K mg base N_lift "lift" (defScope s_lift) f cdv A outer s H E).xe := passes_of rfl
  exact (dss_one (ds_ret (de_call (fun _ => (c_lift_of T)) (fun _ => hr) (fun _ => hx) (fun _ => rfl) (da_cons (de_call (fun _ => (c_need_registers T)) (fun _ => hr) (fun _ => hx) (fun _ => rfl) (da_cons (de_var 0) (da_cons de_int (da_cons de_int da_nil)))) da_nil))))
/-! ### monomials -/
abbrev N_monomials : List Str := ["many"]
theorem S_monomials : FnScope N_monomials ["many"] (defScope s_monomials) := ⟨rfl, rfl, rfl, by decide +kernel, rfl, by decide +kernel, by decide +kernel⟩
def m_monomials (δ : DL.Env) : M (Fl × DL.Env) :=
  (evSeq (evIfS (evOrT (evNotT (evB (evCallF 1 f_is_integer (evCons (evVar 0) evNil)))) (evNotT (evB (evChain (fun i j => decide (i ≤ j)) (fun i j => decide (i ≤ j)) (cI 1) (evVar 0) (cI 3))))) (evRaise "BadMany" "thing" (evVar 0)) evNext)
    (evRet (evCallF 1 f_pairs_of (evCons (evVar 0) evNil)))) δ
@[irreducible] def f_monomials : List RV → M RV := fnD 1 m_monomials
theorem c_monomials (T : Top K mg cv) : CalD P w K mg base cv 3 "monomials" 1 f_monomials := by
  unfold f_monomials
  refine T.d_monomials.cal S_monomials fun f cdv A outer s H E hr => ?_
  have hx : Passes (L2N.CX P w) (cxOf (L2N.CX P w) P w K mg base N_monomials "monomials" (defScope s_monomials) f cdv A outer s H E) E := L2N.passes_call (L2N.takes_of rfl rfl rfl rfl) (fun _ _ _ _ h => h)
  have hp : PassesOwn (model P w) (cxOf (L2N.CX P w) P w K mg base N_monomials "monomials" (defScope s_monomials) f cdv A outer s H E).A (cxOf (L2N.CX P w) P w K mg base N_monomials "monomials" (defScope s_monomials) f cdv A outer s H E).env (cxOf (L2N.CX P w) P w K mg base N_monomials "monomials" (defScope s_monomials) f cdv A outer s H E).xe := passes_of rfl
  exact (dss_cons (ds_if (DW.t (dw_or (dt_not (dt_val (de_call (fun _ => (c_is_integer T)) (fun _ => hr) (fun _ => hx) (fun _ => rfl) (da_cons (de_var 0) da_nil)))) (dw_or1 (dt_not (dt_chain (fun _ => op_le) (fun _ => op_le) de_int (de_var 0) de_int))))) (dss_one (ds_raise (f := "thing") (G := ⟨K, E, cv⟩) T.rai_BadMany.choose_spec.1 (fun _ => T.rai_BadMany.choose_spec.2 _ _ _) (fun _ => hr) (fun _ => pass0N) (fun _ => L2N.takes_of rfl rfl rfl rfl) (fun _ => rfl) (fun _ => rfl) (de_var 0))) dss_nil)
    (dss_one (ds_ret (de_call (fun _ => (c_pairs_of T)) (fun _ => hr) (fun _ => hx) (fun _ => rfl) (da_cons (de_var 0) da_nil)))))
/-! ### value_at -/
abbrev N_value_at : List Str := ["equation", "registers", "many", "part", "value"]
theorem S_value_at : FnScope N_value_at ["equation", "registers"] (defScope s_value_at) := ⟨rfl, rfl, rfl, by decide +kernel, rfl, by decide +kernel, by decide +kernel⟩
def p_value_at_e1 (δ : DL.Env) : M RV :=
  (ev2 (opMul false) (evVar 3) (evVar 4)) δ
def p_value_at_s2 (δ : DL.Env) : M (Fl × DL.Env) :=
  (evSeq (evDrop (evCallF 3 f_need_registers (evCons (evVar 1) (evCons (evVar 2) (evCons (evVar 2) evNil)))))
    (evRet (evCall bSum (evCons (evLc false [3, 4] (evZipM (evCons (evVar 0) (evCons (evCallF 1 f_lift_of (evCons (evVar 1) evNil)) evNil))) (gtUnp 2 (gtCons (gtName 3) (gtCons (gtName 4) gtNil))) evYes p_value_at_e1) evNil)))) δ
def p_value_at_s3 (δ : DL.Env) : M (Fl × DL.Env) :=
  (evSeq (evAsg (evIxKI wd_SIZES (evCall bLen (evCons (evVar 0) evNil))) (gtName 2))
    p_value_at_s2) δ
def p_value_at_s4 (δ : DL.Env) : M (Fl × DL.Env) :=
  (evSeq (evIfS (evNotT (evB (evCallF 2 f_is_row (evCons (evVar 0) (evCons (evCall bLen (evCons (evVar 0) evNil)) evNil))))) (evRaise "BadEquation" "thing" (evVar 0)) evNext)
    p_value_at_s3) δ
def m_value_at (δ : DL.Env) : M (Fl × DL.Env) :=
  (evSeq (evIfS (evOrT (evNotT (evB (evCall bIsi (evCons (evVar 0) (evCons (evTup (evCons (cT .lst) (evCons (cT .tup) evNil))) evNil))))) (evB (evInKI wd_SIZES true (evCall bLen (evCons (evVar 0) evNil))))) (evRaise "BadEquation" "thing" (evVar 0)) evNext)
    p_value_at_s4) δ
@[irreducible] def f_value_at : List RV → M RV := fnD 5 m_value_at
theorem c_value_at (T : Top K mg cv) : CalD P w K mg base cv 4 "value_at" 2 f_value_at := by
  unfold f_value_at
  refine T.d_value_at.cal S_value_at fun f cdv A outer s H E hr => ?_
  have hx : Passes (L2N.CX P w) (cxOf (L2N.CX P w) P w K mg base N_value_at "value_at" (defScope s_value_at) f cdv A outer s H E) E := L2N.passes_call (L2N.takes_of rfl rfl rfl rfl) (fun _ _ _ _ h => h)
  have hp : PassesOwn (model P w) (cxOf (L2N.CX P w) P w K mg base N_value_at "value_at" (defScope s_value_at) f cdv A outer s H E).A (cxOf (L2N.CX P w) P w K mg base N_value_at "value_at" (defScope s_value_at) f cdv A outer s H E).env (cxOf (L2N.CX P w) P w K mg base N_value_at "value_at" (defScope s_value_at) f cdv A outer s H E).xe := passes_of rfl
  exact (dss_cons (ds_if (DW.t (dw_or (dt_not (dt_val (de_callB (fun _ => CallR.or call_isiY call_isiTY) cd_isi (fun _ => T.z_isinstance) (da_cons (de_var 0) (da_cons (de_tup (da_cons (de_ty .lst (fun _ => T.z_list)) (da_cons (de_ty .tup (fun _ => T.z_tuple)) da_nil))) da_nil))))) (dw_or1 (dt_inKI true T.wd_SIZES.choose_spec.2 (fun _ => T.wd_SIZES.choose_spec.1) (fun _ => rfl) (de_callB (fun _ => call_bLen rfl) cd_len (fun _ => T.z_len) (da_cons (de_var 0) da_nil)))))) (dss_one (ds_raise (f := "thing") (G := ⟨K, E, cv⟩) T.rai_BadEquation.choose_spec.1 (fun _ => T.rai_BadEquation.choose_spec.2 _ _ _) (fun _ => hr) (fun _ => pass0N) (fun _ => L2N.takes_of rfl rfl rfl rfl) (fun _ => rfl) (fun _ => rfl) (de_var 0))) dss_nil)
    (dss_cons (ds_if (dt_not (dt_val (de_call (fun _ => (c_is_row T)) (fun _ => hr) (fun _ => hx) (fun _ => rfl) (da_cons (de_var 0) (da_cons (de_callB (fun _ => call_bLen rfl) cd_len (fun _ => T.z_len) (da_cons (de_var 0) da_nil)) da_nil))))) (dss_one (ds_raise (f := "thing") (G := ⟨K, E, cv⟩) T.rai_BadEquation.choose_spec.1 (fun _ => T.rai_BadEquation.choose_spec.2 _ _ _) (fun _ => hr) (fun _ => pass0N) (fun _ => L2N.takes_of rfl rfl rfl rfl) (fun _ => rfl) (fun _ => rfl) (de_var 0))) dss_nil)
    (dss_cons (ds_asg (de_ixKI T.wd_SIZES.choose_spec.2 (fun _ => T.wd_SIZES.choose_spec.1) (fun _ => rfl) (de_callB (fun _ => call_bLen rfl) cd_len (fun _ => T.z_len) (da_cons (de_var 0) da_nil))) (dg_name 2 (fun _ => S_value_at.nd)))
    (dss_cons (ds_expr (de_call (fun _ => (c_need_registers T)) (fun _ => hr) (fun _ => hx) (fun _ => rfl) (da_cons (de_var 1) (da_cons (de_var 2) (da_cons (de_var 2) da_nil)))))
    (dss_one (ds_ret (de_callB (fun _ => call_bSum rfl rfl) cd_sum (fun _ => T.z_sum) (da_cons (de_lc (mk := false) N_value_at (defScope s_value_at) [("part", 3), ("value", 4)] (blkOk_by (by decide +kernel)) (sub_by (by decide)) (fun _ => rfl) (fun _ => S_value_at.nd) (di_zipM (fun _ => rfl) (fun _ => T.z_zip) (da_cons (de_var 0) (da_cons (de_call (fun _ => (c_lift_of T)) (fun _ => hr) (fun _ => hx) (fun _ => rfl) (da_cons (de_var 1) da_nil)) da_nil))) (dg_tup (n := 2) (fun _ => rfl) (fun _ => rfl) (dgs_cons (dg_name 3 (fun _ => S_value_at.nd)) (dgs_cons (dg_name 4 (fun _ => S_value_at.nd)) dgs_nil))) dts_nil (de_mul (mk := false) (de_var 3) (de_var 4))) da_nil))))))))
/-! ### law -/
abbrev N_law : List Str := ["script", "stream", "many", "turn", "x", "due", "equation", "given", "other", "told", "bad", "wrong", "no_rows", "size_wrong", "calls", "word", "thing", "call", "part"]
theorem S_law : FnScope N_law ["script"] (defScope s_law) := ⟨rfl, rfl, rfl, by decide +kernel, rfl, by decide +kernel, by decide +kernel⟩
theorem S_start : FnScope ["script"] ["script"] (defScope s__law_start) := ⟨rfl, rfl, rfl, by decide +kernel, rfl, by decide +kernel, by decide +kernel⟩
theorem ok_start (T : Top K mg cv) {f : Addr} {fd : FuncData} (F : Fun K "_law_start" "_law_start" s__law_start f fd) : FnOk P w K mg base (L2N.CX P w) 1 f fd ["script"] (spStart K) := by
  refine F.okG S_start (fun vs H Q E h => ?_) (fun cdv A outer s H vs Q E hr h => ?_)
  · obtain ⟨a, ns, rfl, _⟩ := h
    rfl
  · exact ⟨_, pss_one (ps_ret (pe_lst (pa_cons (pe_callTy call_list_of (by rfl) T.z_list (by decide +kernel) (pa_cons (pv 0) pa_nil)) (pa_cons pe_int (pa_cons pe_int (pa_cons pe_int pa_nil)))))), rd_start h⟩
abbrev cells0 (n : Nat) : List (Str × Addr) := cellsFrom (n + 1) (defScope s_law).names []
abbrev L_1 : LamI := lamOf 1 (subE (subE (valS (subS ((defBody s_law).getD 2 (.Pass ⟨0, 0, 0, 0⟩)) 15)) 0) 2) (("law" : Str) ++ ".<locals>.")
theorem LS_1 : LamX.LamS (defScope s_law) L_1.scope := LamX.lamS_by (by decide +kernel)
def F_1 (δ : DL.Env) : M RV :=
  (evCallF 2 f_value_at (evCons (evVar 6) (evCons (evVar 13) evNil))) δ
theorem lam_1 (T : Top K mg cv) (n : Nat) : LamOk P w K mg base cv N_law (defScope s_law) (cells0 n) 4 L_1 F_1 := by
  refine ⟨LS_1, fun _ _ _ => by rfl, fun A outer s H E f c' hr => ?_⟩
  have hx : Passes (L2N.CX P w) (lamC P w K mg base N_law A outer s H E L_1 (cloFrom (cells0 n) L_1.scope.names []) f c') E := L2N.passes_call (L2N.takes_of rfl rfl rfl rfl) (fun _ _ _ _ h => h)
  exact (de_call (fun _ => (c_value_at T)) (fun _ => hr) (fun _ => hx) (fun _ => rfl) (da_cons (de_var 6) (da_cons (de_var 13) da_nil)))
abbrev L_2 : LamI := lamOf 2 (subE (subE (valS (subS ((defBody s_law).getD 2 (.Pass ⟨0, 0, 0, 0⟩)) 14)) 0) 2) (("law" : Str) ++ ".<locals>.")
theorem LS_2 : LamX.LamS (defScope s_law) L_2.scope := LamX.lamS_by (by decide +kernel)
def F_2 (δ : DL.Env) : M RV :=
  (evCallF 2 f_value_at (evCons (evVar 6) (evCons (evVar 11) evNil))) δ
theorem lam_2 (T : Top K mg cv) (n : Nat) : LamOk P w K mg base cv N_law (defScope s_law) (cells0 n) 4 L_2 F_2 := by
  refine ⟨LS_2, fun _ _ _ => by rfl, fun A outer s H E f c' hr => ?_⟩
  have hx : Passes (L2N.CX P w) (lamC P w K mg base N_law A outer s H E L_2 (cloFrom (cells0 n) L_2.scope.names []) f c') E := L2N.passes_call (L2N.takes_of rfl rfl rfl rfl) (fun _ _ _ _ h => h)
  exact (de_call (fun _ => (c_value_at T)) (fun _ => hr) (fun _ => hx) (fun _ => rfl) (da_cons (de_var 6) (da_cons (de_var 11) da_nil)))
abbrev L_3 : LamI := lamOf 3 (subE (subE (valS (subS ((defBody s_law).getD 2 (.Pass ⟨0, 0, 0, 0⟩)) 13)) 0) 2) (("law" : Str) ++ ".<locals>.")
theorem LS_3 : LamX.LamS (defScope s_law) L_3.scope := LamX.lamS_by (by decide +kernel)
def F_3 (δ : DL.Env) : M RV :=
  (evCallF 2 f_value_at (evCons (evVar 12) (evCons (evVar 11) evNil))) δ
theorem lam_3 (T : Top K mg cv) (n : Nat) : LamOk P w K mg base cv N_law (defScope s_law) (cells0 n) 4 L_3 F_3 := by
  refine ⟨LS_3, fun _ _ _ => by rfl, fun A outer s H E f c' hr => ?_⟩
  have hx : Passes (L2N.CX P w) (lamC P w K mg base N_law A outer s H E L_3 (cloFrom (cells0 n) L_3.scope.names []) f c') E := L2N.passes_call (L2N.takes_of rfl rfl rfl rfl) (fun _ _ _ _ h => h)
  exact (de_call (fun _ => (c_value_at T)) (fun _ => hr) (fun _ => hx) (fun _ => rfl) (da_cons (de_var 12) (da_cons (de_var 11) da_nil)))
abbrev L_4 : LamI := lamOf 4 (subE (subE (valS (subS ((defBody s_law).getD 2 (.Pass ⟨0, 0, 0, 0⟩)) 12)) 0) 2) (("law" : Str) ++ ".<locals>.")
theorem LS_4 : LamX.LamS (defScope s_law) L_4.scope := LamX.lamS_by (by decide +kernel)
def F_4 (δ : DL.Env) : M RV :=
  (evCallF 1 f_lift (evCons (evVar 11) evNil)) δ
theorem lam_4 (T : Top K mg cv) (n : Nat) : LamOk P w K mg base cv N_law (defScope s_law) (cells0 n) 4 L_4 F_4 := by
  refine ⟨LS_4, fun _ _ _ => by rfl, fun A outer s H E f c' hr => ?_⟩
  have hx : Passes (L2N.CX P w) (lamC P w K mg base N_law A outer s H E L_4 (cloFrom (cells0 n) L_4.scope.names []) f c') E := L2N.passes_call (L2N.takes_of rfl rfl rfl rfl) (fun _ _ _ _ h => h)
  exact (de_call (fun _ => (c_lift T)) (fun _ => hr) (fun _ => hx) (fun _ => rfl) (da_cons (de_var 11) da_nil))
abbrev L_5 : LamI := lamOf 5 (subE (subE (valS (subS ((defBody s_law).getD 2 (.Pass ⟨0, 0, 0, 0⟩)) 11)) 0) 2) (("law" : Str) ++ ".<locals>.")
theorem LS_5 : LamX.LamS (defScope s_law) L_5.scope := LamX.lamS_by (by decide +kernel)
def F_5 (δ : DL.Env) : M RV :=
  (evCallF 1 f_monomials (evCons (evVar 10) evNil)) δ
theorem lam_5 (T : Top K mg cv) (n : Nat) : LamOk P w K mg base cv N_law (defScope s_law) (cells0 n) 4 L_5 F_5 := by
  refine ⟨LS_5, fun _ _ _ => by rfl, fun A outer s H E f c' hr => ?_⟩
  have hx : Passes (L2N.CX P w) (lamC P w K mg base N_law A outer s H E L_5 (cloFrom (cells0 n) L_5.scope.names []) f c') E := L2N.passes_call (L2N.takes_of rfl rfl rfl rfl) (fun _ _ _ _ h => h)
  exact (de_call (fun _ => (c_monomials T)) (fun _ => hr) (fun _ => hx) (fun _ => rfl) (da_cons (de_var 10) da_nil))
abbrev tab (n : Nat) : List (LamI × (DL.Env → M RV)) := [(L_1, F_1), (L_2, F_2), (L_3, F_3), (L_4, F_4), (L_5, F_5)]
theorem tab_ok (T : Top K mg cv) (n : Nat) : ∀ p ∈ tab n, LamOk P w K mg base cv N_law (defScope s_law) (cells0 n) 4 p.1 p.2 := by
  intro p hp
  simp only [List.mem_cons, List.not_mem_nil, or_false] at hp
  rcases hp with rfl | rfl | rfl | rfl | rfl
  · exact lam_1 T n
  · exact lam_2 T n
  · exact lam_3 T n
  · exact lam_4 T n
  · exact lam_5 T n
def p_law_b1 (n P0 : Nat) (δ : DL.Env) : M (Fl × DL.Env) :=
  (evIfS (evNotT (evB (evRefuses (cells0 n) (tab n) (nmT nms) m__law_brefuses (evCons (evVar 15) (evCons (evVar 16) (evCons (evVar 17) evNil)))))) (evRet (cB false)) evNext) δ
def p_law_s2 (n P0 : Nat) (δ : DL.Env) : M (Fl × DL.Env) :=
  (evSeq (evDrop (evMth mAppend (evVar 14) (evCons (evTup (evCons (cS "registers") (evCons (evVar 13) (evCons (evLam L_1 (cloFrom (cells0 n) L_1.scope.names []) P0 2) evNil)))) evNil)))
    (evFor (evIter (evCallF 2 f__law_mixed (evCons (evVar 1) (evCons (evFrz (evVar 14)) evNil)))) (gtUnp 3 (gtCons (gtName 15) (gtCons (gtName 16) (gtCons (gtName 17) gtNil)))) (p_law_b1 n P0))) δ
def p_law_s3 (n P0 : Nat) (δ : DL.Env) : M (Fl × DL.Env) :=
  (evSeq (evDrop (evMth mAppend (evVar 14) (evCons (evTup (evCons (cS "registers") (evCons (evVar 11) (evCons (evLam L_2 (cloFrom (cells0 n) L_2.scope.names []) P0 2) evNil)))) evNil)))
    (p_law_s2 n P0)) δ
def p_law_s4 (n P0 : Nat) (δ : DL.Env) : M (Fl × DL.Env) :=
  (evSeq (evDrop (evMth mAppend (evVar 14) (evCons (evTup (evCons (cS "equation") (evCons (evVar 12) (evCons (evLam L_3 (cloFrom (cells0 n) L_3.scope.names []) P0 2) evNil)))) evNil)))
    (p_law_s3 n P0)) δ
def p_law_s5 (n P0 : Nat) (δ : DL.Env) : M (Fl × DL.Env) :=
  (evSeq (evDrop (evMth mAppend (evVar 14) (evCons (evTup (evCons (cS "registers") (evCons (evVar 11) (evCons (evLam L_4 (cloFrom (cells0 n) L_4.scope.names []) P0 2) evNil)))) evNil)))
    (p_law_s4 n P0)) δ
def p_law_s6 (n P0 : Nat) (δ : DL.Env) : M (Fl × DL.Env) :=
  (evSeq (evAsg (evLst true (evCons (evTup (evCons (cS "many") (evCons (evVar 10) (evCons (evLam L_5 (cloFrom (cells0 n) L_5.scope.names []) P0 2) evNil)))) evNil)) (gtName 14))
    (p_law_s5 n P0)) δ
def p_law_s7 (n P0 : Nat) (δ : DL.Env) : M (Fl × DL.Env) :=
  (evSeq (evAsg (ev2 (opMul false) (evLst false (evCons (cI 0) evNil)) (ev2 (opAdd false) (cI 1) (ev2 opMod (evVar 2) (cI 3)))) (gtName 13))
    (p_law_s6 n P0)) δ
def p_law_s8 (n P0 : Nat) (δ : DL.Env) : M (Fl × DL.Env) :=
  (evSeq (evAsg (evCallF 2 f__law_pick (evCons (evVar 1) (evCons (evLst false (evCons (evLst false evNil) (evCons (evSl false (evVar 6) (oS (cI 1)) oN) (evCons (ev2 (opAdd false) (evVar 6) (evLst false (evCons (cI 0) (evCons (cI 0) evNil)))) (evCons cN (evCons (cI 7) (evCons (ev2 (opAdd false) (evSl false (evVar 6) (oS (cI 1)) oN) (evLst false (evCons (cB true) evNil))) (evCons (ev2 (opAdd false) (evSl false (evVar 6) (oS (cI 1)) oN) (evLst false (evCons (cS "1") evNil))) evNil)))))))) evNil))) (gtName 12))
    (p_law_s7 n P0)) δ
def p_law_s9 (n P0 : Nat) (δ : DL.Env) : M (Fl × DL.Env) :=
  (evSeq (evAsg (evCallF 2 f__law_pick (evCons (evVar 1) (evCons (evLst false (evCons (evLst false evNil) (evCons (ev2 (opAdd false) (evVar 4) (ev2 (opMul false) (evLst false (evCons (cI 0) evNil)) (ev2 opSub (cI 4) (evVar 2)))) (evCons cN (evCons (cI 5) (evCons (cS "ab") (evCons (ev2 (opAdd false) (evSl false (evVar 4) (oS (cI 1)) oN) (evLst false (evCons (cB true) evNil))) (evCons (ev2 (opAdd false) (evSl false (evVar 4) (oS (cI 1)) oN) (evLst false (evCons cN evNil))) (evCons (evTup (evCons (evVar 4) evNil)) evNil))))))))) evNil))) (gtName 11))
    (p_law_s8 n P0)) δ
def p_law_s10 (n P0 : Nat) (δ : DL.Env) : M (Fl × DL.Env) :=
  (evSeq (evAsg (evCallF 2 f__law_pick (evCons (evVar 1) (evCons (evLst false (evCons (cI 0) (evCons (cI 4) (evCons cN (evCons (cB true) (evCons (cS "1") (evCons (evLst false (evCons (cI 1) evNil)) evNil))))))) evNil))) (gtName 10))
    (p_law_s9 n P0)) δ
def p_law_s11 (n P0 : Nat) (δ : DL.Env) : M (Fl × DL.Env) :=
  (evSeq (evIfS (evOrT (evNotT (evB (evCallF 1 f__law_apart (evCons (evLst true (evCons (evVar 9) evNil)) evNil)))) (evNotT (evB (evCallF 2 (f__law_same 6) (evCons (evFrz (evCallF 1 f_lift (evCons (evCall bTuple (evCons (evVar 4) evNil)) evNil))) (evCons (evVar 5) evNil)))))) (evRet (cB false)) evNext)
    (p_law_s10 n P0)) δ
def p_law_s12 (n P0 : Nat) (δ : DL.Env) : M (Fl × DL.Env) :=
  (evSeq (evAsg (evCallF 1 f_lift (evCons (evVar 4) evNil)) (gtName 9))
    (p_law_s11 n P0)) δ
def p_law_s13 (n P0 : Nat) (δ : DL.Env) : M (Fl × DL.Env) :=
  (evSeq (evIfS (evNotT (evB (evCallF 2 (f__law_same 6) (evCons (evLst false (evCons (evFrz (evCallF 1 f_lift (evCons (evVar 7) evNil))) (evCons (evCallF 2 f_value_at (evCons (evVar 8) (evCons (evVar 7) evNil))) (evCons (evCall (bList false) (evCons (evVar 7) evNil)) (evCons (evCall (bList false) (evCons (evVar 8) evNil)) evNil))))) (evCons (evLst false (evCons (evVar 5) (evCons (evCallF 2 f__law_bvalue (evCons (evVar 6) (evCons (evVar 4) evNil))) (evCons (evVar 4) (evCons (evVar 6) evNil))))) evNil))))) (evRet (cB false)) evNext)
    (p_law_s12 n P0)) δ
def p_law_s14 (n P0 : Nat) (δ : DL.Env) : M (Fl × DL.Env) :=
  (evSeq (evPar 7 8 (evCons (evCallF 2 (f__law_loose 5) (evCons (evVar 1) (evCons (evVar 4) evNil))) (evCons (evCallF 2 (f__law_loose 5) (evCons (evVar 1) (evCons (evVar 6) evNil))) evNil)))
    (p_law_s13 n P0)) δ
def p_law_e15 (n P0 : Nat) (δ : DL.Env) : M RV :=
  (evCallF 1 f__law_bnumber (evCons (evVar 1) evNil)) δ
def p_law_s16 (n P0 : Nat) (δ : DL.Env) : M (Fl × DL.Env) :=
  (evSeq (evParT 2 (evCons (evCallF 1 f__law_blift (evCons (evVar 4) evNil)) (evCons (evLc false [18] (evIter (evCallF 1 f__law_bpairs (evCons (evVar 2) evNil))) (gtName 18) evYes (p_law_e15 n P0)) evNil)) (gtCons (gtName 5) (gtCons (gtName 6) gtNil)))
    (p_law_s14 n P0)) δ
def p_law_e17 (n P0 : Nat) (δ : DL.Env) : M RV :=
  (evCallF 2 f__law_pick (evCons (evVar 1) (evCons (evLst false (evCons (evCallF 1 f__law_bnumber (evCons (evVar 1) evNil)) (evCons (ev2 opSub (evCallF 2 f__law_below (evCons (evVar 1) (evCons (ev2 opPow (cI 10) (cI 30)) evNil))) (ev2 opPow (cI 10) (cI 29))) evNil))) evNil))) δ
def p_law_s18 (n P0 : Nat) (δ : DL.Env) : M (Fl × DL.Env) :=
  (evSeq (evAsg (evLc false [18] (evRange1 (evCons (evVar 2) evNil)) (gtName 18) evYes (p_law_e17 n P0)) (gtName 4))
    (p_law_s16 n P0)) δ
def p_law_b19 (n P0 : Nat) (δ : DL.Env) : M (Fl × DL.Env) :=
  (evSeq (evAsg (ev2 (opAdd false) (cI 1) (evCallF 2 f__law_below (evCons (evVar 1) (evCons (cI 3) evNil)))) (gtName 2))
    (p_law_s18 n P0)) δ
def p_law_b20 (n P0 : Nat) (δ : DL.Env) : M (Fl × DL.Env) :=
  (evIfS (evOrT (evNotT (evB (evCallF 2 (f__law_same 6) (evCons (evFrz (evCallF 1 f_monomials (evCons (evVar 2) evNil))) (evCons (evCallF 1 f__law_bpairs (evCons (evVar 2) evNil)) evNil))))) (evNotT (evB (evCallF 1 f__law_apart (evCons (evLst true (evCons (evCallF 1 f_monomials (evCons (evVar 2) evNil)) (evCons (evCallF 1 f_monomials (evCons (evVar 2) evNil)) evNil))) evNil))))) (evRet (cB false)) evNext) δ
def m_law (n P0 : Nat) (δ : DL.Env) : M (Fl × DL.Env) :=
  (evSeq (evFor (evIter (evTup (evCons (cI 1) (evCons (cI 2) (evCons (cI 3) evNil))))) (gtName 2) (p_law_b20 n P0))
    (evSeq (evFor (evRange1 (evCons (cI 10) evNil)) (gtName 3) (p_law_b19 n P0))
    (evRet (cB true)))) δ
theorem ok_law (T : Top K mg cv) {f cc P0 : Addr} {kV doc pm ct oc : Value} {an od : Option Addr} {osl : Array (Option Value)} (lk : K.lookup f = some ⟨oc, od, .func (PySem.W.fnOf "law" "law" (defArgs s_law) (defBody s_law) (defScope s_law) .none kV doc pm an (.ref cc) ct), osl⟩) (hcd : PySem.W.codeIn K (.ref cc) "law" = true) (TB : LamX.TabB base mg cc P0)
    (math : ∀ (n P0 : Nat) (ns : List Int), ns.length ≤ 63 → wpM (m_law n P0 (lawEnv 19)) (startT ns P0 (("law" : Str) ++ ".<locals>." ++ "<lambda>")) (fun p _ => p.1 = .rt (.d (.bl true))) (fun _ _ => False)) :
    FnOk P w K mg base (L2N.CX P w) 8 f (PySem.W.fnOf "law" "law" (defArgs s_law) (defBody s_law) (defScope s_law) .none kV doc pm an (.ref cc) ct) ["script"] (spLawT K P0) := by
  refine okLawT (cv := cv) (n := 19) (Fb := fun n => m_law n P0) lk hcd TB S_law rfl rfl (by decide) (fun A outer s H E hr => ?_) (fun A outer s H E hr => ?_) (fun m ns h => math m P0 ns h)
  · obtain ⟨fS, fdS, FS, gS, bS⟩ := T.d__law_start.ex
    exact ps_asg (pe_call ((ok_start T FS).mono (by omega)) hr (by rfl) gS FS.kp bS .nil (L2N.passes_call (L2N.takes_of rfl rfl rfl rfl) (fun _ _ _ _ h => h)) (pa_cons (pv 0) pa_nil)) (pg_name (i := 1) S_law.nd rfl (.inr rfl))
  · have hx : Passes (L2N.CX P w) (cxOf (L2N.CX P w) P w K mg base N_law "law" (defScope s_law) f (.ref cc) A outer s H E) E := L2N.passes_call (L2N.takes_of rfl rfl rfl rfl) (fun _ _ _ _ h => h)
    have hp : PassesOwn (model P w) (cxOf (L2N.CX P w) P w K mg base N_law "law" (defScope s_law) f (.ref cc) A outer s H E).A (cxOf (L2N.CX P w) P w K mg base N_law "law" (defScope s_law) f (.ref cc) A outer s H E).env (cxOf (L2N.CX P w) P w K mg base N_law "law" (defScope s_law) f (.ref cc) A outer s H E).xe := passes_of rfl
    exact (dss_cons (ds_for (fun _ => hp) (fun _ => rfl) (di_any (fun _ => rfl) (de_tup (da_cons de_int (da_cons de_int (da_cons de_int da_nil))))) (dg_name 2 (fun _ => S_law.nd)) (dss_one (ds_if (DW.t (dw_or (dt_not (dt_val (de_call (fun _ => (c__law_same T 6)) (fun _ => hr) (fun _ => hx) (fun _ => rfl) (da_cons (de_frz (de_call (fun _ => (c_monomials T)) (fun _ => hr) (fun _ => hx) (fun _ => rfl) (da_cons (de_var 2) da_nil))) (da_cons (de_call (fun _ => (c__law_bpairs T)) (fun _ => hr) (fun _ => hx) (fun _ => rfl) (da_cons (de_var 2) da_nil)) da_nil))))) (dw_or1 (dt_not (dt_val (de_call (fun _ => (c__law_apart T)) (fun _ => hr) (fun _ => hx) (fun _ => rfl) (da_cons (de_lst (mk := true) (da_cons (de_call (fun _ => (c_monomials T)) (fun _ => hr) (fun _ => hx) (fun _ => rfl) (da_cons (de_var 2) da_nil)) (da_cons (de_call (fun _ => (c_monomials T)) (fun _ => hr) (fun _ => hx) (fun _ => rfl) (da_cons (de_var 2) da_nil)) da_nil))) da_nil))))))) (dss_one (ds_ret de_bl)) dss_nil)))
    (dss_cons (ds_for (fun _ => hp) (fun _ => rfl) (di_range1 (fun _ => T.z_range) (da_cons de_int da_nil)) (dg_name 3 (fun _ => S_law.nd)) (dss_cons (ds_asg (de_add (mk := false) (fun _ => rfl) de_int (de_call (fun _ => (c__law_below T)) (fun _ => hr) (fun _ => hx) (fun _ => rfl) (da_cons (de_var 1) (da_cons de_int da_nil)))) (dg_name 2 (fun _ => S_law.nd)))
    (dss_cons (ds_setLc (mk := false) N_law (defScope s_law) [("part", 18)] 4 (blkOk_by (by decide +kernel)) (sub_by (by decide)) (fun _ => rfl) (fun _ => S_law.nd) (di_range1 (fun _ => T.z_range) (da_cons (de_var 2) da_nil)) (dg_name 18 (fun _ => S_law.nd)) dts_nil (de_call (fun _ => (c__law_pick T)) (fun _ => hr) (fun _ => pass0N) (fun _ => rfl) (da_cons (de_var 1) (da_cons (de_lst (mk := false) (da_cons (de_call (fun _ => (c__law_bnumber T)) (fun _ => hr) (fun _ => pass0N) (fun _ => rfl) (da_cons (de_var 1) da_nil)) (da_cons (de_sub (de_call (fun _ => (c__law_below T)) (fun _ => hr) (fun _ => pass0N) (fun _ => rfl) (da_cons (de_var 1) (da_cons (de_pow de_int de_int) da_nil))) (de_pow de_int de_int)) da_nil))) da_nil))) rfl rfl (fun _ => sw_true rfl rfl rfl (by decide +kernel)))
    (dss_cons (ds_parT (n := 2) (fun _ => rfl) (fun _ => rfl) (da_cons (de_call (fun _ => (c__law_blift T)) (fun _ => hr) (fun _ => hx) (fun _ => rfl) (da_cons (de_var 4) da_nil)) (da_cons (de_lc (mk := false) N_law (defScope s_law) [("part", 18)] (blkOk_by (by decide +kernel)) (sub_by (by decide)) (fun _ => rfl) (fun _ => S_law.nd) (di_any (fun _ => rfl) (de_call (fun _ => (c__law_bpairs T)) (fun _ => hr) (fun _ => hx) (fun _ => rfl) (da_cons (de_var 2) da_nil))) (dg_name 18 (fun _ => S_law.nd)) dts_nil (de_call (fun _ => (c__law_bnumber T)) (fun _ => hr) (fun _ => pass0N) (fun _ => rfl) (da_cons (de_var 1) da_nil))) da_nil)) (dgs_cons (dg_name 5 (fun _ => S_law.nd)) (dgs_cons (dg_name 6 (fun _ => S_law.nd)) dgs_nil)))
    (dss_cons (ds_par 7 8 (fun _ => rfl) (fun _ => S_law.nd) (da_cons (de_call (fun _ => (c__law_loose T 5)) (fun _ => hr) (fun _ => hx) (fun _ => rfl) (da_cons (de_var 1) (da_cons (de_var 4) da_nil))) (da_cons (de_call (fun _ => (c__law_loose T 5)) (fun _ => hr) (fun _ => hx) (fun _ => rfl) (da_cons (de_var 1) (da_cons (de_var 6) da_nil))) da_nil)))
    (dss_cons (ds_if (dt_not (dt_val (de_call (fun _ => (c__law_same T 6)) (fun _ => hr) (fun _ => hx) (fun _ => rfl) (da_cons (de_lst (mk := false) (da_cons (de_frz (de_call (fun _ => (c_lift T)) (fun _ => hr) (fun _ => hx) (fun _ => rfl) (da_cons (de_var 7) da_nil))) (da_cons (de_call (fun _ => (c_value_at T)) (fun _ => hr) (fun _ => hx) (fun _ => rfl) (da_cons (de_var 8) (da_cons (de_var 7) da_nil))) (da_cons (de_callTy (fun _ => call_bList rfl rfl) (cd_list (mk := false)) (fun _ => T.z_list) (da_cons (de_var 7) da_nil)) (da_cons (de_callTy (fun _ => call_bList rfl rfl) (cd_list (mk := false)) (fun _ => T.z_list) (da_cons (de_var 8) da_nil)) da_nil))))) (da_cons (de_lst (mk := false) (da_cons (de_var 5) (da_cons (de_call (fun _ => (c__law_bvalue T)) (fun _ => hr) (fun _ => hx) (fun _ => rfl) (da_cons (de_var 6) (da_cons (de_var 4) da_nil))) (da_cons (de_var 4) (da_cons (de_var 6) da_nil))))) da_nil))))) (dss_one (ds_ret de_bl)) dss_nil)
    (dss_cons (ds_asg (de_call (fun _ => (c_lift T)) (fun _ => hr) (fun _ => hx) (fun _ => rfl) (da_cons (de_var 4) da_nil)) (dg_name 9 (fun _ => S_law.nd)))
    (dss_cons (ds_if (DW.t (dw_or (dt_not (dt_val (de_call (fun _ => (c__law_apart T)) (fun _ => hr) (fun _ => hx) (fun _ => rfl) (da_cons (de_lst (mk := true) (da_cons (de_var 9) da_nil)) da_nil)))) (dw_or1 (dt_not (dt_val (de_call (fun _ => (c__law_same T 6)) (fun _ => hr) (fun _ => hx) (fun _ => rfl) (da_cons (de_frz (de_call (fun _ => (c_lift T)) (fun _ => hr) (fun _ => hx) (fun _ => rfl) (da_cons (de_callTy (fun _ => call_bTuple rfl) cd_tuple (fun _ => T.z_tuple) (da_cons (de_var 4) da_nil)) da_nil))) (da_cons (de_var 5) da_nil)))))))) (dss_one (ds_ret de_bl)) dss_nil)
    (dss_cons (ds_asg (de_call (fun _ => (c__law_pick T)) (fun _ => hr) (fun _ => hx) (fun _ => rfl) (da_cons (de_var 1) (da_cons (de_lst (mk := false) (da_cons de_int (da_cons de_int (da_cons de_non (da_cons de_bl (da_cons de_str (da_cons (de_lst (mk := false) (da_cons de_int da_nil)) da_nil))))))) da_nil))) (dg_name 10 (fun _ => S_law.nd)))
    (dss_cons (ds_asg (de_call (fun _ => (c__law_pick T)) (fun _ => hr) (fun _ => hx) (fun _ => rfl) (da_cons (de_var 1) (da_cons (de_lst (mk := false) (da_cons (de_lst (mk := false) da_nil) (da_cons (de_add (mk := false) (fun _ => rfl) (de_var 4) (de_mul (mk := false) (de_lst (mk := false) (da_cons de_int da_nil)) (de_sub de_int (de_var 2)))) (da_cons de_non (da_cons de_int (da_cons de_str (da_cons (de_add (mk := false) (fun _ => rfl) (de_sl (mk := false) (fun _ => rfl) (de_var 4) (do_some de_int) do_none) (de_lst (mk := false) (da_cons de_bl da_nil))) (da_cons (de_add (mk := false) (fun _ => rfl) (de_sl (mk := false) (fun _ => rfl) (de_var 4) (do_some de_int) do_none) (de_lst (mk := false) (da_cons de_non da_nil))) (da_cons (de_tup (da_cons (de_var 4) da_nil)) da_nil))))))))) da_nil))) (dg_name 11 (fun _ => S_law.nd)))
    (dss_cons (ds_asg (de_call (fun _ => (c__law_pick T)) (fun _ => hr) (fun _ => hx) (fun _ => rfl) (da_cons (de_var 1) (da_cons (de_lst (mk := false) (da_cons (de_lst (mk := false) da_nil) (da_cons (de_sl (mk := false) (fun _ => rfl) (de_var 6) (do_some de_int) do_none) (da_cons (de_add (mk := false) (fun _ => rfl) (de_var 6) (de_lst (mk := false) (da_cons de_int (da_cons de_int da_nil)))) (da_cons de_non (da_cons de_int (da_cons (de_add (mk := false) (fun _ => rfl) (de_sl (mk := false) (fun _ => rfl) (de_var 6) (do_some de_int) do_none) (de_lst (mk := false) (da_cons de_bl da_nil))) (da_cons (de_add (mk := false) (fun _ => rfl) (de_sl (mk := false) (fun _ => rfl) (de_var 6) (do_some de_int) do_none) (de_lst (mk := false) (da_cons de_str da_nil))) da_nil)))))))) da_nil))) (dg_name 12 (fun _ => S_law.nd)))
    (dss_cons (ds_asg (de_mul (mk := false) (de_lst (mk := false) (da_cons de_int da_nil)) (de_add (mk := false) (fun _ => rfl) de_int (de_mod (de_var 2) de_int))) (dg_name 13 (fun _ => S_law.nd)))
    (dss_cons (ds_asg (de_lst (mk := true) (da_cons (de_tup (da_cons de_str (da_cons (de_var 10) (da_cons (de_lam L_5 (l := 2) rfl (fun _ => TB) (fun _ => rfl) (fun _ => rfl) (fun _ => rfl) (fun _ => LS_5) (fun _ => rfl)) da_nil)))) da_nil)) (dg_name 14 (fun _ => S_law.nd)))
    (dss_cons (ds_expr (de_mthL (fun _ => rfl) PySem.F.slot_list_append PySem.F.type_list_append (fun _ => mt_append) md_append (de_var 14) (da_cons (de_tup (da_cons de_str (da_cons (de_var 11) (da_cons (de_lam L_4 (l := 2) rfl (fun _ => TB) (fun _ => rfl) (fun _ => rfl) (fun _ => rfl) (fun _ => LS_4) (fun _ => rfl)) da_nil)))) da_nil)))
    (dss_cons (ds_expr (de_mthL (fun _ => rfl) PySem.F.slot_list_append PySem.F.type_list_append (fun _ => mt_append) md_append (de_var 14) (da_cons (de_tup (da_cons de_str (da_cons (de_var 12) (da_cons (de_lam L_3 (l := 2) rfl (fun _ => TB) (fun _ => rfl) (fun _ => rfl) (fun _ => rfl) (fun _ => LS_3) (fun _ => rfl)) da_nil)))) da_nil)))
    (dss_cons (ds_expr (de_mthL (fun _ => rfl) PySem.F.slot_list_append PySem.F.type_list_append (fun _ => mt_append) md_append (de_var 14) (da_cons (de_tup (da_cons de_str (da_cons (de_var 11) (da_cons (de_lam L_2 (l := 2) rfl (fun _ => TB) (fun _ => rfl) (fun _ => rfl) (fun _ => rfl) (fun _ => LS_2) (fun _ => rfl)) da_nil)))) da_nil)))
    (dss_cons (ds_expr (de_mthL (fun _ => rfl) PySem.F.slot_list_append PySem.F.type_list_append (fun _ => mt_append) md_append (de_var 14) (da_cons (de_tup (da_cons de_str (da_cons (de_var 13) (da_cons (de_lam L_1 (l := 2) rfl (fun _ => TB) (fun _ => rfl) (fun _ => rfl) (fun _ => rfl) (fun _ => LS_1) (fun _ => rfl)) da_nil)))) da_nil)))
    (dss_one (ds_for (fun _ => hp) (fun _ => rfl) (di_any (fun _ => rfl) (de_call (fun _ => (c__law_mixed T)) (fun _ => hr) (fun _ => hx) (fun _ => rfl) (da_cons (de_var 1) (da_cons (de_frz (de_var 14)) da_nil)))) (dg_tup (n := 3) (fun _ => rfl) (fun _ => rfl) (dgs_cons (dg_name 15 (fun _ => S_law.nd)) (dgs_cons (dg_name 16 (fun _ => S_law.nd)) (dgs_cons (dg_name 17 (fun _ => S_law.nd)) dgs_nil)))) (dss_one (ds_if (dt_not (dt_val (de_refuses (kl := 4) (tab := tab s.heap.objs.size) (fun _ => ⟨rfl, rfl, rfl, rfl, rfl⟩) (fun _ => rfl) (fun _ => rfl) (fun _ => rfl) (fun _ _ => rfl) (c__law_brefuses T) (fun _ => hr) (tab_ok T s.heap.objs.size) (da_cons (de_var 15) (da_cons (de_var 16) (da_cons (de_var 17) da_nil)))))) (dss_one (ds_ret de_bl)) dss_nil)))))))))))))))))))))
    (dss_one (ds_ret de_bl))))
end
end K18

set_option Elab.async false
set_option linter.all false
set_option maxRecDepth 100000
set_option maxHeartbeats 4000000
set_option exponentiation.threshold 2000
/-! N31: pairs, lifts. -/
namespace K18
open PySem PySem.Spec PyProof.Rows L2 RZ DL SH
noncomputable section
def prs (m : Nat) : List (Nat × Nat) := (List.range (m + 1)).flatMap fun a => (List.range (m + 1 - a)).map fun b => (a, a + b)
def pT (p : Nat × Nat) : D := .tup [.int (p.1 : Nat), .int (p.2 : Nat)]
theorem pairs_of {W : Wd} {E : DX → Wd → Prop} {Q : RV → Wd → Prop} {m : Nat} (hm : m = 1 ∨ m = 2 ∨ m = 3) (h : Q (.r W.length) (W ++ [.lst (((prs m).map pT).map RV.d)])) : wpM (f_pairs_of [.d (.int (m : Nat))]) W Q E := by
  rcases hm with rfl | rfl | rfl
  · have : f_pairs_of [.d (.int (1 : Nat))] W = some (.ok (.r W.length), W ++ [.lst (((prs 1).map pT).map RV.d)]) := by unfold f_pairs_of; rfl
    exact (wpM_val this).mpr h
  · have : f_pairs_of [.d (.int (2 : Nat))] W = some (.ok (.r W.length), W ++ [.lst (((prs 2).map pT).map RV.d)]) := by unfold f_pairs_of; rfl
    exact (wpM_val this).mpr h
  · have : f_pairs_of [.d (.int (3 : Nat))] W = some (.ok (.r W.length), W ++ [.lst (((prs 3).map pT).map RV.d)]) := by unfold f_pairs_of; rfl
    exact (wpM_val this).mpr h
theorem bpairs {W : Wd} {E : DX → Wd → Prop} {Q : RV → Wd → Prop} {m : Nat} (hm : m = 1 ∨ m = 2 ∨ m = 3) (h : Q (.d (.lst ((prs m).map pT))) W) : wpM (f__law_bpairs [.d (.int (m : Nat))]) W Q E := by
  rcases hm with rfl | rfl | rfl
  · unfold f__law_bpairs
    rw [w_fnD]
    have : m__law_bpairs (startD 4 [.d (.int (1 : Nat))]) W = some (.ok (.rt (.d (.lst ((prs 1).map pT))), [some (.d (.int 1)), some (.d (.lst ((prs 1).map pT))), some (.d (.int 1)), none]), W) := by rfl
    refine (wpM_val this).mpr ?_
    rw [kFn_rt, gcQ_d, gcW_self]; exact h
  · unfold f__law_bpairs
    rw [w_fnD]
    have : m__law_bpairs (startD 4 [.d (.int (2 : Nat))]) W = some (.ok (.rt (.d (.lst ((prs 2).map pT))), [some (.d (.int 2)), some (.d (.lst ((prs 2).map pT))), some (.d (.int 2)), none]), W) := by rfl
    refine (wpM_val this).mpr ?_
    rw [kFn_rt, gcQ_d, gcW_self]; exact h
  · unfold f__law_bpairs
    rw [w_fnD]
    have : m__law_bpairs (startD 4 [.d (.int (3 : Nat))]) W = some (.ok (.rt (.d (.lst ((prs 3).map pT))), [some (.d (.int 3)), some (.d (.lst ((prs 3).map pT))), some (.d (.int 3)), none]), W) := by rfl
    refine (wpM_val this).mpr ?_
    rw [kFn_rt, gcQ_d, gcW_self]; exact h
end
end K18
set_option Elab.async false
set_option linter.all false
set_option maxRecDepth 100000
set_option maxHeartbeats 4000000
set_option exponentiation.threshold 2000
namespace K18
open PySem PySem.Spec PyProof.Rows L2 RZ DL SH
noncomputable section
def at1 (x : List Int) (i : Nat) : Int := (1 :: x).getD i 0
def pr (x : List Int) (p : Nat × Nat) : Int := at1 x p.1 * at1 x p.2
def lft (x : List Int) : List Int := (prs x.length).map (pr x)
theorem at1_get {x : List Int} {i : Nat} (h : i < x.length + 1) : (((1 :: x).map (RV.d ∘ D.int)))[i]? = some (RV.d (D.int (at1 x i))) := by
  rw [List.getElem?_map, List.getElem?_eq_getElem (by simpa using h)]
  unfold at1
  rw [List.getD_eq_getElem?_getD, List.getElem?_eq_getElem (by simpa using h)]
  rfl
def sm (n : Nat) (x : List Int) : Prop := ∀ i ∈ x, i.natAbs < 2 ^ n
theorem prs_lt {m : Nat} {p : Nat × Nat} (h : p ∈ prs m) : p.1 < m + 1 ∧ p.2 < m + 1 := by
  unfold prs at h
  simp only [List.mem_flatMap, List.mem_range, List.mem_map] at h
  obtain ⟨a, ha, b, hb, rfl⟩ := h
  dsimp only
  omega
theorem prs_len {m : Nat} (hm : m = 1 ∨ m = 2 ∨ m = 3) : (prs m).length = 3 ∧ m = 1 ∨ (prs m).length = 6 ∧ m = 2 ∨ (prs m).length = 10 ∧ m = 3 := by
  rcases hm with rfl | rfl | rfl
  · exact .inl ⟨rfl, rfl⟩
  · exact .inr (.inl ⟨rfl, rfl⟩)
  · exact .inr (.inr ⟨rfl, rfl⟩)
theorem sm_getD {n : Nat} (hn : 1 < n) {x : List Int} (h : sm n x) (i : Nat) : (at1 x i).natAbs < 2 ^ n := by
  unfold at1
  have p : 0 < 2 ^ n := Nat.pow_pos (by decide)
  have p2 : 2 ^ 1 < 2 ^ n := Nat.pow_lt_pow_right (by decide) hn
  cases hx : (1 :: x)[i]? with
  | none => rw [List.getD_eq_getElem?_getD, hx]; exact p
  | some v =>
    rw [List.getD_eq_getElem?_getD, hx]
    show v.natAbs < _
    rcases List.mem_cons.mp (List.mem_of_getElem? hx) with rfl | z
    · show 1 < _; omega
    · exact h v z
theorem w_add_tt {W : Wd} {E : DX → Wd → Prop} {Q : RV → Wd → Prop} {mk : Bool} {a b : D} {xs ys : List D} (hl : (a :: xs).length + (b :: ys).length ≤ sizeLine) : wpM (opAdd mk (.d (.tup (a :: xs))) (.d (.tup (b :: ys)))) W Q E = Q (.d (.tup (a :: xs ++ b :: ys))) W := by
  have e : opAdd mk (.d (.tup (a :: xs))) (.d (.tup (b :: ys))) = opCatT (.d (.tup (a :: xs))) (.d (.tup (b :: ys))) := rfl
  rw [e]
  unfold opCatT
  rw [w_bind, w_look]
  show wpM ((M.guard _).bind _) W Q E = _
  rw [w_bind, w_guard]
  simp only [kB_ap]
  rw [if_neg (by simp)]
  rw [show (((a :: xs).map RV.d) ++ ((b :: ys).map RV.d)) = (a :: xs ++ b :: ys).map RV.d by simp, w_newT]
  refine propext ⟨fun h => h.2, fun h => ⟨⟨by simpa using hl, rfl⟩, h⟩⟩
@[simp] theorem w_bTuple_sq {W : Wd} {E : DX → Wd → Prop} {Q : RV → Wd → Prop} {t : Bool} {xs : List D} : wpM (bTuple [.d (sq t xs)]) W Q E = Q (.d (.tup xs)) W := by
  cases t
  · exact w_bTuple_l
  · unfold bTuple
    dsimp only
    rw [w_bind, w_look]
    rfl
theorem lift_of {W : Wd} {E : DX → Wd → Prop} {Q : RV → Wd → Prop} {x : List Int} {t : Bool} (hm : x.length = 1 ∨ x.length = 2 ∨ x.length = 3) (hs : sm 200 x)
    (h : Q (.r (W.length + 1)) (W ++ [.fz (.lst ((prs x.length).map pT)), .lst ((dI (lft x)).map RV.d)])) : wpM (f_lift_of [.d (sq t (dI x))]) W Q E := by
  unfold f_lift_of
  rw [w_fnD]
  simp [m_lift_of, startD]
  obtain ⟨a, r, rfl⟩ : ∃ a r, x = a :: r := by cases x with | nil => simp at hm | cons a r => exact ⟨a, r, rfl⟩
  have hl : r.length ≤ 2 := by simp only [List.length_cons] at hm; omega
  rw [show dI (a :: r) = D.int a :: dI r from rfl, w_add_tt (small_le (by rw [dI_len.symm] at hl; simp only [List.length_cons, List.length_nil]; omega))]
  simp
  show wpM (f_pairs_of [RV.d (D.int (((a :: r).length : Nat) : Int))]) W _ _
  refine pairs_of hm ?_
  have e1 : (W ++ [MO.lst (((prs (a :: r).length).map pT).map RV.d)])[W.length]? = some (.lst (((prs (a :: r).length).map pT).map RV.d)) := by simp
  have e2 : (W ++ [MO.lst (((prs (a :: r).length).map pT).map RV.d)]).set W.length (.fz (.lst ((prs (a :: r).length).map pT))) = W ++ [.fz (.lst ((prs (a :: r).length).map pT))] := by simp
  rw [kB_ap, w_iterA_r, e1, frzM_l, e2, kB_ap, itemsOf_l, w_ret, kB_ap]
  rw [lc_mapT _ _ (fun p => .int (pr (a :: r) p)) (small_line (by have := prs_len hm; omega)) (fun p hp => ?_)]
  · unfold lft at h
    rw [dI, List.map_map] at h
    simp [Function.comp_def] at h ⊢
    exact h
  · have l := prs_lt hp
    simp [pT, wipeD, p_lift_of_e1]
    have g1 : (RV.d (D.int 1) :: RV.d (D.int a) :: List.map (RV.d ∘ D.int) r)[p.1]? = some (.d (.int (at1 (a :: r) p.1))) := at1_get (x := a :: r) l.1
    have g2 : (RV.d (D.int 1) :: RV.d (D.int a) :: List.map (RV.d ∘ D.int) r)[p.2]? = some (.d (.int (at1 (a :: r) p.2))) := at1_get (x := a :: r) l.2
    rw [g1]
    simp
    rw [g2]
    simp
    exact ⟨cmulw (Nat.lt_trans (sm_getD (by decide) hs _) (by decide)) (Nat.lt_trans (sm_getD (by decide) hs _) (by decide)), rfl⟩
end
end K18
set_option Elab.async false
set_option linter.all false
set_option maxRecDepth 100000
set_option maxHeartbeats 4000000
set_option exponentiation.threshold 2000
namespace K18
open PySem PySem.Spec PyProof.Rows L2 RZ DL SH
noncomputable section
variable {W : Wd} {E : DX → Wd → Prop} {Q : RV → Wd → Prop}
/-- the law's own lift -/
theorem blift {x : List Int} (hm : x.length = 1 ∨ x.length = 2 ∨ x.length = 3) (hs : sm 200 x) (h : Q (.d (lI (lft x))) W) : wpM (f__law_blift [.d (lI x)]) W Q E := by
  unfold f__law_blift
  rw [w_fnD]
  simp [m__law_blift, startD]
  have hl : x.length ≤ 3 := by omega
  refine ⟨small_le (by omega), ?_⟩
  rw [w_newL_p (ds := D.int 1 :: dI x) (by simp)]
  simp
  refine bpairs hm ?_
  simp
  rw [lc_map _ _ (fun p => .int (pr x p)) (small_line (by have := prs_len hm; omega)) (fun p hp => ?_)]
  · unfold lft at h
    simp [Function.comp_def, lI, dI] at h ⊢
    exact h
  · have l := prs_lt hp
    simp [pT, wipeD, p__law_blift_e1]
    have g1 : (RV.d (D.int 1) :: List.map (RV.d ∘ D.int) x)[p.1]? = some (.d (.int (at1 x p.1))) := at1_get l.1
    have g2 : (RV.d (D.int 1) :: List.map (RV.d ∘ D.int) x)[p.2]? = some (.d (.int (at1 x p.2))) := at1_get l.2
    rw [g1]
    simp
    rw [g2]
    simp
    exact ⟨cmulw (Nat.lt_trans (sm_getD (by decide) hs _) (by decide)) (Nat.lt_trans (sm_getD (by decide) hs _) (by decide)), rfl⟩
theorem lft_sm {x : List Int} (hs : sm 200 x) : sm 400 (lft x) := by
  intro i hi
  unfold lft at hi
  obtain ⟨p, _, rfl⟩ := List.mem_map.mp hi
  unfold pr
  rw [Int.natAbs_mul, show (2 : Nat) ^ 400 = 2 ^ 200 * 2 ^ 200 from by rw [← Nat.pow_add]]
  exact Nat.mul_lt_mul'' (sm_getD (by decide) hs _) (sm_getD (by decide) hs _)
def dotI (e l : List Int) : Int := ((e.zip l).map fun p => p.1 * p.2).sum
theorem bvalue {e x : List Int} (hm : x.length = 1 ∨ x.length = 2 ∨ x.length = 3) (hs : sm 200 x) (he : sm 200 e) (hz : e.length < 1000) (h : Q (.d (.int (dotI e (lft x)))) W) : wpM (f__law_bvalue [.d (lI e), .d (lI x)]) W Q E := by
  unfold f__law_bvalue
  rw [w_fnD]
  simp [m__law_bvalue, startD]
  refine blift hm hs ?_
  simp
  rw [zipD_map]
  rw [lc_map _ _ (fun p => .int (p.1 * p.2)) (small_line (by rw [List.length_zip]; omega)) (fun p hp => ?_)]
  · simp
    exact h
  · obtain ⟨a, b⟩ := p
    simp [wipeD, p__law_bvalue_e1]
    exact cmulw (Nat.lt_trans (he _ (List.of_mem_zip hp).1) (by decide)) (Nat.lt_trans (lft_sm hs _ (List.of_mem_zip hp).2) (by decide))
/-! what is none -/
def kd : D → Bool
  | .int _ => true
  | .bl _ => true
  | .non => true
  | .str _ => true
  | .lst _ => true
  | .tup _ => true
  | _ => false
def isI : D → Bool
  | .int _ => true
  | _ => false
def pts : D → Option (List D)
  | .lst xs => some xs
  | .tup xs => some xs
  | _ => none
theorem is_integer {d : D} (hk : kd d = true) (h : Q (.d (.bl (isI d))) W) : wpM (f_is_integer [.d d]) W Q E := by
  unfold f_is_integer
  rw [w_fnD]
  cases d <;> first | (simp [kd] at hk; done) | (simp [m_is_integer, startD]; exact h)
def isRow (d : D) (n : Int) : Bool := match pts d with
  | some xs => decide ((xs.length : Int) = n) && xs.all isI
  | none => false
def kds (d : D) : Bool := kd d && match pts d with
  | some xs => decide (xs.length < 1000) && xs.all kd
  | none => true
theorem is_row {d : D} {n : Int} (hk : kds d = true) (h : Q (.d (.bl (isRow d n))) W) : wpM (f_is_row [.d d, .d (.int n)]) W Q E := by
  unfold f_is_row
  rw [w_fnD]
  have row : ∀ (t : Bool) (xs : List D), d = sq t xs → xs.length < 1000 → (∀ x ∈ xs, kd x = true) → isRow d n = (decide ((xs.length : Int) = n) && xs.all isI) → wpM (m_is_row (startD 3 [.d d, .d (.int n)])) W (kFn W Q) (gcE W E) := fun t xs hd hz hx he => by
    subst hd
    rw [he] at h
    simp [m_is_row, startD]
    by_cases hn : (xs.length : Int) = n
    · simp [hn] at h ⊢
      have e := lc_map (E := gcE W E) (Q := kB (consA evNil [some (RV.d (sq t xs)), some (RV.d (D.int n)), none]) (kB bAll (kB (retF [some (RV.d (sq t xs)), some (RV.d (D.int n)), none]) (kFn W Q) (gcE W E)) (gcE W E)) (gcE W E)) (W := W) (T := gtName 2) (F := p_is_row_e1) (δ := [some (RV.d (sq t xs)), some (RV.d (D.int n)), none]) xs id (fun x => .bl (isI x)) (small_line (by omega)) (fun x hxm => ?_)
      · rw [List.map_id] at e
        simp [wipeD]
        rw [e]
        simp
        exact h
      · simp [p_is_row_e1]
        exact is_integer (hx x hxm) ⟨rfl, rfl⟩
    · simp [hn] at h ⊢
      exact h
  cases d with
  | lst xs => simp [kds, kd, pts] at hk; exact row false xs rfl hk.1 hk.2 rfl
  | tup xs => simp [kds, kd, pts] at hk; exact row true xs rfl hk.1 hk.2 rfl
  | _ => first | (simp [kds, kd] at hk; done) | (simp [m_is_row, startD, isRow, pts] at h ⊢; exact h)
end
end K18
set_option Elab.async false
set_option linter.all false
set_option maxRecDepth 100000
set_option maxHeartbeats 4000000
set_option exponentiation.threshold 2000
namespace K18
open PySem PySem.Spec PyProof.Rows L2 RZ DL SH
noncomputable section
variable {W : Wd} {E : DX → Wd → Prop} {Q : RV → Wd → Prop}
def raiA (cls f : Str) (u : RV) : M (Fl × DL.Env) := (toD u).bind fun x => M.throw ⟨cls, [(f, x)]⟩
@[simp] theorem w_raise {cls f : Str} {F : DL.Env → M RV} {δ : DL.Env} {QS : Fl × DL.Env → Wd → Prop} : wpM (evRaise cls f F δ) W QS E = wpM (F δ) W (kB (raiA cls f) QS E) E := propext wpM_bind
@[simp] theorem w_raiA {cls f : Str} {x : D} {QS : Fl × DL.Env → Wd → Prop} : wpM (raiA cls f (.d x)) W QS E = E ⟨cls, [(f, x)]⟩ W := rfl
def inkF (kvs : List (Int × Int)) (neg : Bool) (u : RV) : M RV := (asI u).bind fun i => M.ret (.d (.bl ((kvs.lookup i).isSome != neg)))
@[simp] theorem w_inKI {kvs : List (Int × Int)} {neg : Bool} {F : DL.Env → M RV} {δ : DL.Env} : wpM (evInKI kvs neg F δ) W Q E = wpM (F δ) W (kB (inkF kvs neg) Q E) E := propext wpM_bind
@[simp] theorem inkF_i {kvs : List (Int × Int)} {neg : Bool} {i : Int} : inkF kvs neg (.d (.int i)) = M.ret (.d (.bl ((kvs.lookup i).isSome != neg))) := rfl
def ixkF (kvs : List (Int × Int)) (u : RV) : M RV := (asI u).bind fun i => M.opt ((kvs.lookup i).map fun v => RV.d (.int v))
@[simp] theorem w_ixKI {kvs : List (Int × Int)} {F : DL.Env → M RV} {δ : DL.Env} : wpM (evIxKI kvs F δ) W Q E = wpM (F δ) W (kB (ixkF kvs) Q E) E := propext wpM_bind
@[simp] theorem ixkF_i {kvs : List (Int × Int)} {i : Int} : ixkF kvs (.d (.int i)) = M.opt ((kvs.lookup i).map fun v => RV.d (.int v)) := rfl
def zipMB (u : RV) (d : D) : M (List D) := (toD u).bind fun d' => itemsZM d d'
def zipMA (us : List RV) : M (List D) := match us with
  | [u, v] => (toD u).bind (zipMB v)
  | _ => M.fail
@[simp] theorem w_zipM {R : DL.Env → M (List RV)} {δ : DL.Env} {QD : List D → Wd → Prop} : wpM (evZipM R δ) W QD E = wpM (R δ) W (kB zipMA QD E) E := propext wpM_bind
@[simp] theorem w_zipMA {d : D} {v : RV} {QD : List D → Wd → Prop} : wpM (zipMA [.d d, v]) W QD E = wpM (toD v) W (kB (itemsZM d) QD E) E := propext wpM_bind
@[simp] theorem itemsZM_s {t : Bool} {xs ys : List D} : itemsZM (sq t xs) (.lst ys) = M.ret (zipD xs ys) := by cases t <;> rfl
/-- registers of the right kind -/
def okR (d : D) (lo hi : Int) : Bool := match pts d with
  | some xs => decide (lo ≤ xs.length) && decide ((xs.length : Int) ≤ hi) && xs.all isI
  | none => false
theorem sq_cases {d : D} {xs : List D} (h : pts d = some xs) : ∃ t, d = sq t xs := by
  cases d <;> first | (cases h; exact ⟨false, rfl⟩) | (cases h; exact ⟨true, rfl⟩) | cases h
@[simp] theorem pts_sq {t : Bool} {xs : List D} : pts (sq t xs) = some xs := by cases t <;> rfl
theorem need {d : D} {lo hi : Int} (hk : kds d = true) (h : if okR d lo hi = true then Q (.d d) W else E ⟨"BadRegisters", [("thing", d)]⟩ W) : wpM (f_need_registers [.d d, .d (.int lo), .d (.int hi)]) W Q E := by
  unfold f_need_registers
  rw [w_fnD]
  cases hp : pts d with
  | none =>
    simp [okR, hp] at h
    cases d <;> first | (simp [kds, kd] at hk; done) | (simp [pts] at hp; done) | (simp [m_need_registers, startD]; exact h)
  | some xs =>
    obtain ⟨t, rfl⟩ := sq_cases hp
    simp [okR] at h
    simp [m_need_registers, startD]
    by_cases h1 : lo ≤ (xs.length : Int)
    · by_cases h2 : (xs.length : Int) ≤ hi
      · simp [h1, h2] at h ⊢
        refine is_row hk ?_
        simp [isRow]
        by_cases h3 : ∀ x ∈ xs, isI x = true
        · rw [if_pos h3] at h
          rw [show xs.all isI = true from List.all_eq_true.mpr h3]
          simp
          exact h
        · rw [if_neg h3] at h
          rw [show xs.all isI = false from by rw [← Bool.not_eq_true, List.all_eq_true]; exact h3]
          simp
          exact h
      · simp [h1, h2] at h ⊢
        exact h
    · simp [h1] at h ⊢
      exact h
theorem kds_ints {t : Bool} {x : List Int} (hz : x.length < 1000) : kds (sq t (dI x)) = true := by
  have : kd (sq t (dI x)) = true := by cases t <;> rfl
  simp [kds, this]
  refine ⟨hz, fun a _ => rfl⟩
theorem okR_ints {t : Bool} {x : List Int} {lo hi : Int} : okR (sq t (dI x)) lo hi = (decide (lo ≤ x.length) && decide ((x.length : Int) ≤ hi)) := by
  simp [okR]
  intro _ _ a _
  rfl
/-- lift of registers -/
theorem lift {x : List Int} {t : Bool} (hm : x.length = 1 ∨ x.length = 2 ∨ x.length = 3) (hs : sm 200 x)
    (h : Q (.r (W.length + 1)) (W ++ [.fz (.lst ((prs x.length).map pT)), .lst ((dI (lft x)).map RV.d)])) : wpM (f_lift [.d (sq t (dI x))]) W Q E := by
  unfold f_lift
  rw [w_fnD]
  simp [m_lift, startD]
  refine need (kds_ints (by omega)) ?_
  rw [okR_ints, if_pos (by simp; omega)]
  simp
  refine lift_of hm hs ?_
  simp at h ⊢
  exact h
theorem lift_no {d : D} (hk : kds d = true) (hn : okR d 1 3 = false) (h : E ⟨"BadRegisters", [("thing", d)]⟩ W) : wpM (f_lift [.d d]) W Q E := by
  unfold f_lift
  rw [w_fnD]
  simp [m_lift, startD]
  refine need hk ?_
  rw [hn]
  simp
  exact h
theorem monomials {m : Nat} (hm : m = 1 ∨ m = 2 ∨ m = 3) (h : Q (.r W.length) (W ++ [.lst (((prs m).map pT).map RV.d)])) : wpM (f_monomials [.d (.int (m : Nat))]) W Q E := by
  unfold f_monomials
  rw [w_fnD]
  simp [m_monomials, startD]
  refine is_integer rfl ?_
  have h1 : (1 : Int) ≤ (m : Int) := by omega
  have h2 : (m : Int) ≤ 3 := by omega
  simp [isI, h1, h2]
  refine pairs_of hm ?_
  simp at h ⊢
  exact h
def okM : D → Bool
  | .int i => decide (1 ≤ i) && decide (i ≤ 3)
  | _ => false
theorem monomials_no {d : D} (hk : kd d = true) (hn : okM d = false) (h : E ⟨"BadMany", [("thing", d)]⟩ W) : wpM (f_monomials [.d d]) W Q E := by
  unfold f_monomials
  rw [w_fnD]
  simp [m_monomials, startD]
  refine is_integer hk ?_
  cases d <;> first | (simp [kd] at hk; done) | skip
  case int i =>
    simp [okM] at hn
    simp [isI]
    by_cases h1 : 1 ≤ i
    · have h2 : ¬ i ≤ 3 := by have := hn h1; omega
      simp [h1, h2]; exact h
    · simp [h1]; exact h
  all_goals (simp [isI]; exact h)
end
end K18
set_option Elab.async false
set_option linter.all false
set_option maxRecDepth 100000
set_option maxHeartbeats 4000000
set_option exponentiation.threshold 2000
namespace K18
open PySem PySem.Spec PyProof.Rows L2 RZ DL SH
noncomputable section
variable {W : Wd} {E : DX → Wd → Prop} {Q : RV → Wd → Prop}
theorem sizes {m : Nat} (hm : m = 1 ∨ m = 2 ∨ m = 3) : wd_SIZES.lookup ((prs m).length : Int) = some (m : Int) := by
  rcases hm with rfl | rfl | rfl <;> rfl
/-- equations of the right kind -/
def okE (d : D) : Bool := match pts d with
  | some xs => (wd_SIZES.lookup (xs.length : Int)).isSome && xs.all isI
  | none => false
theorem value_at_noE {d r : D} (hk : kds d = true) (hn : okE d = false) (h : E ⟨"BadEquation", [("thing", d)]⟩ W) : wpM (f_value_at [.d d, .d r]) W Q E := by
  unfold f_value_at
  rw [w_fnD]
  cases hp : pts d with
  | none => cases d <;> first | (simp [kds, kd] at hk; done) | (simp [pts] at hp; done) | (simp [m_value_at, startD]; exact h)
  | some xs =>
    obtain ⟨t, rfl⟩ := sq_cases hp
    unfold okE at hn
    rw [pts_sq] at hn
    dsimp only at hn
    simp [m_value_at, startD]
    cases hs : List.lookup (xs.length : Int) wd_SIZES with
    | none => simp; exact h
    | some v =>
      rw [hs] at hn
      have hn2 : xs.all isI = false := by simpa using hn
      simp [p_value_at_s4]
      refine is_row hk ?_
      rw [show isRow (sq t xs) (xs.length : Int) = false from by unfold isRow; rw [pts_sq]; simp [hn2]]
      simp
      exact h
theorem value_at_noR {e : List Int} {m : Nat} {t : Bool} {r : D} (hm : m = 1 ∨ m = 2 ∨ m = 3) (he : e.length = (prs m).length) (hk : kds r = true) (hn : okR r m m = false) (h : E ⟨"BadRegisters", [("thing", r)]⟩ W) : wpM (f_value_at [.d (sq t (dI e)), .d r]) W Q E := by
  unfold f_value_at
  rw [w_fnD]
  have hz : e.length < 1000 := by have := prs_len hm; omega
  have sz := sizes hm
  simp [m_value_at, startD, he, sz, p_value_at_s4, p_value_at_s3, p_value_at_s2]
  refine is_row (kds_ints hz) ?_
  rw [show isRow (sq t (dI e)) ((prs m).length : Int) = true from by simp [isRow, he]; intro a _; rfl]
  simp [he, sz, p_value_at_s3, p_value_at_s2]
  refine need hk ?_
  rw [hn]
  simp
  exact h
theorem value_at {e x : List Int} {t t2 : Bool} (hm : x.length = 1 ∨ x.length = 2 ∨ x.length = 3) (he : e.length = (prs x.length).length) (hs : sm 200 x) (hse : sm 200 e) (h : Q (.d (.int (dotI e (lft x)))) W) : wpM (f_value_at [.d (sq t (dI e)), .d (sq t2 (dI x))]) W Q E := by
  unfold f_value_at
  rw [w_fnD]
  have hz : e.length < 1000 := by have := prs_len hm; omega
  have sz := sizes hm
  simp [m_value_at, startD, he, sz, p_value_at_s4, p_value_at_s3, p_value_at_s2]
  refine is_row (kds_ints hz) ?_
  rw [show isRow (sq t (dI e)) ((prs x.length).length : Int) = true from by simp [isRow, he]; intro a _; rfl]
  simp [he, sz, p_value_at_s3, p_value_at_s2]
  refine need (kds_ints (by omega)) ?_
  rw [okR_ints, if_pos (by simp)]
  simp
  refine lift_of hm hs ?_
  simp
  rw [show (List.map (RV.d ∘ D.int) (lft x)) = (dI (lft x)).map RV.d by simp, pureL_map]
  simp
  rw [zipD_map]
  rw [lc_map _ _ (fun p => .int (p.1 * p.2)) (small_line (by rw [List.length_zip]; omega)) (fun p hp => ?_)]
  · simp
    exact h
  · obtain ⟨a, b⟩ := p
    simp [wipeD, p_value_at_e1]
    exact cmulw (Nat.lt_trans (hse _ (List.of_mem_zip hp).1) (by decide)) (Nat.lt_trans (lft_sm hs _ (List.of_mem_zip hp).2) (by decide))
end
end K18
set_option Elab.async false
set_option linter.all false
set_option maxRecDepth 100000
set_option maxHeartbeats 4000000
/-! SBN: _law_spoilt, _law_is_once, _law_apart, _law_mixed. -/
namespace SH
open PySem PySem.Spec PyProof.Rows L2 RZ DL
noncomputable section
variable {W : Wd} {E : DX → Wd → Prop} {Q : RV → Wd → Prop} {δ : DL.Env}
theorem countP_py {y : D} {q : PyData} (hq : toPy y = some q) : ∀ {xs : List D} {ps : List PyData}, toPy.toPyL xs = some ps → (ps.countP fun z => PyData.eqv z q) = xs.countP fun x => deq x y
  | [], ps, h => by cases h; rfl
  | x :: xs, ps, h => by
    simp only [toPy.toPyL] at h
    cases e1 : toPy x <;> cases e2 : toPy.toPyL xs <;> rw [e1, e2] at h <;> simp at h
    subst h
    rw [List.countP_cons, List.countP_cons, countP_py hq e2, deq_eqv x y _ _ e1 hq]
theorem w_countL {xs : List D} {z : Str} (h : shp 60 (.lst xs) = true) (hz : PyData.strOk z = true) : wpM (mCountL (.d (.lst xs)) [.d (.str z)]) W Q E = Q (.d (.int (xs.countP fun y => deq y (.str z) : Nat))) W := by
  obtain ⟨p, e1, h1, h2⟩ := shp_py 60 _ h
  unfold mCountL
  rw [w_look]
  show lookK ((toPy.toPyL xs).bind _) Q W = _
  simp only [toPy] at e1
  cases e2 : toPy.toPyL xs with
  | none => rw [e2] at e1; cases e1
  | some ps =>
    rw [e2] at e1
    cases e1
    show lookK (if SeqAt.shaped (.list ps) = true ∧ SeqAt.shaped (.str z) = true then _ else none) Q W = _
    rw [if_pos ⟨by unfold SeqAt.shaped; rw [h1]; simp; omega, by unfold SeqAt.shaped; simp [PyData.canLay0, PyData.depth, hz]⟩]
    rw [lookK_some, countP_py (y := .str z) rfl e2]
/-- a spoilt thing, each list changed once -/
def onceOk : Nat → D → Bool
  | 0, _ => false
  | n + 1, .lst xs => shp 60 (.lst xs) && decide (xs.length < 1000) && decide (xs.countP (fun y => deq y (.str "LATE")) = 1) && xs.all (onceOk n)
  | n + 1, .tup xs => shp 60 (.lst xs) && decide (xs.length < 1000) && decide (xs.countP (fun y => deq y (.str "LATE")) = 0) && xs.all (onceOk n)
  | _ + 1, .int _ => true
  | _ + 1, .str _ => true
  | _ + 1, .bl _ => true
  | _ + 1, .non => true
  | _, _ => false
@[simp] theorem bInt_bl {b : Bool} : bInt [.d (.bl b)] = M.ret (.d (.int (if b then 1 else 0))) := rfl
theorem is_once : ∀ (n : Nat) {d : D} {W : Wd} {Q : RV → Wd → Prop} {E : DX → Wd → Prop}, onceOk n d = true → Q (.d (.bl true)) W → wpM (f__law_is_once n [.d d]) W Q E
  | 0, d, W, Q, E, h, hq => by simp [onceOk] at h
  | n + 1, d, W, Q, E, h, hq => by
    rw [f__law_is_once_s, w_fnD]
    have lc : ∀ (t : Bool) (xs : List D) (δ : DL.Env) (Q : RV → Wd → Prop) (E : DX → Wd → Prop), δ.length = 4 → xs.length < 1000 → xs.all (onceOk n) = true → Q (.d (.lst (xs.map fun _ => .bl true))) W →
        wpM (lcF false (gtName 3) evYes (p__law_is_once_e1 (f__law_is_once n)) δ xs) W Q E := fun t xs δ Q E hδ hz ha hq => by
      have e := lc_map (E := E) (Q := Q) (W := W) (T := gtName 3) (F := p__law_is_once_e1 (f__law_is_once n)) (δ := δ) xs id (fun _ => .bl true) (small_line (by omega)) (fun x hx => ?_)
      · rw [List.map_id] at e
        rw [e]
        exact hq
      · simp [p__law_is_once_e1, List.getElem?_set, hδ]
        exact is_once n (List.all_eq_true.mp ha x hx) ⟨rfl, rfl⟩
    cases d with
    | lst xs =>
      simp only [onceOk, Bool.and_eq_true, decide_eq_true_eq] at h
      obtain ⟨⟨⟨h1, h2⟩, h3⟩, h4⟩ := h
      simp [m__law_is_once, startD]
      rw [w_countL h1 (by decide +kernel)]
      simp [h3]
      refine lc false xs _ _ _ (by simp [wipeD]) h2 h4 ?_
      simp
      rw [List.all_eq_true.mpr fun _ _ => rfl]
      exact hq
    | tup xs =>
      simp only [onceOk, Bool.and_eq_true, decide_eq_true_eq] at h
      obtain ⟨⟨⟨h1, h2⟩, h3⟩, h4⟩ := h
      simp [m__law_is_once, startD]
      rw [w_countL h1 (by decide +kernel)]
      simp [h3]
      refine lc false xs _ _ _ (by simp [wipeD]) h2 h4 ?_
      simp
      rw [List.all_eq_true.mpr fun _ _ => rfl]
      exact hq
    | _ => first | (simp [onceOk] at h; done) | (simp [m__law_is_once, startD]; exact hq)
/-! walks -/
def forQF (T : RV → DL.Env → M DL.Env) (B : DL.Env → M (Fl × DL.Env)) (δ : DL.Env) (p : Option Nat × List RV) : M (Fl × DL.Env) := goForQ p.1 p.2 T B p.2 δ
@[simp] theorem w_forQ {S : DL.Env → M (Option Nat × List RV)} {T : RV → DL.Env → M DL.Env} {B : DL.Env → M (Fl × DL.Env)} {QS : Fl × DL.Env → Wd → Prop} : wpM (evForQ S T B δ) W QS E = wpM (S δ) W (kB (forQF T B δ) QS E) E := propext wpM_bind
def wkF (u : RV) : M (Option Nat × List RV) := M.look fun W => (walkOf W u).map (·.2)
@[simp] theorem w_wk {F : DL.Env → M RV} {QW : Option Nat × List RV → Wd → Prop} : wpM (evWk F δ) W QW E = wpM (F δ) W (kB wkF QW E) E := propext wpM_bind
theorem w_wkF {u : RV} {b : Bool} {o : Option Nat} {us : List RV} {QW : Option Nat × List RV → Wd → Prop} (h : walkOf W u = some (b, o, us)) : wpM (wkF u) W QW E = QW (o, us) W := by
  unfold wkF
  rw [w_look, h]; rfl
theorem goForQ_inv {o : Option Nat} {all : List RV} {T : RV → DL.Env → M DL.Env} {B : DL.Env → M (Fl × DL.Env)} {QS : Fl × DL.Env → Wd → Prop} (P : Nat → DL.Env → Wd → Prop) (hat : ∀ i δ W, P i δ W → AtQ o all W)
    (step : ∀ i u δ W, all[i]? = some u → P i δ W → wpM (T u δ) W (fun δ1 W1 => wpM (B δ1) W1 (fun p W2 => p.1 = .nx ∧ P (i + 1) p.2 W2) E) E) (fin : ∀ δ W, P all.length δ W → QS (.nx, δ) W) :
    ∀ (us : List RV) (i : Nat) (δ : DL.Env) (W : Wd), us = all.drop i → i ≤ all.length → P i δ W → wpM (goForQ o all T B us δ) W QS E
  | [], i, δ, W, e, hi, h => by
    have : i = all.length := by
      have := congrArg List.length e
      rw [List.length_nil, List.length_drop] at this
      omega
    subst this
    rw [goForQ, w_bind, w_staysQ]
    exact ⟨hat _ _ _ h, fin δ W h⟩
  | u :: us, i, δ, W, e, hi, h => by
    have hlt : i < all.length := by
      have := congrArg List.length e
      rw [List.length_cons, List.length_drop] at this
      omega
    rw [List.drop_eq_getElem_cons hlt] at e
    injection e with e1 e2
    rw [goForQ, w_bind, w_staysQ]
    refine ⟨hat _ _ _ h, ?_⟩
    rw [kB_ap, w_bind]
    refine wpM_mono (step i u δ W (by rw [List.getElem?_eq_getElem hlt, e1]) h) (fun δ1 W1 h1 => ?_) fun _ _ e => e
    rw [kB_ap, w_bind]
    refine wpM_mono h1 (fun p W2 h2 => ?_) fun _ _ e => e
    obtain ⟨f, δ2⟩ := p
    obtain ⟨rfl, h3⟩ := h2
    exact goForQ_inv P hat step fin us (i + 1) δ2 W2 e2 hlt h3
theorem tyOf_at {l : Nat} {us : List RV} (h : W[l]? = some (.lst us)) : tyOf W (.r l) = some .lst := by
  unfold tyOf
  dsimp only
  rw [h]
theorem walkOf_at {l : Nat} {us : List RV} (h : W[l]? = some (.lst us)) : walkOf W (.r l) = some (false, some l, us) := by
  unfold walkOf
  dsimp only
  rw [h]
/-- a thing in which nothing changes -/
def noEff : Nat → D → Bool
  | 0, _ => false
  | n + 1, .tup xs => xs.all (noEff n)
  | _ + 1, .int _ => true
  | _ + 1, .str _ => true
  | _ + 1, .bl _ => true
  | _ + 1, .non => true
  | _, _ => false
theorem spoilt_no : ∀ (n : Nat) {d : D} {W : Wd} {Q : RV → Wd → Prop} {E : DX → Wd → Prop}, noEff n d = true → Q (.d .non) W → wpM (f__law_spoilt n [.d d]) W Q E
  | 0, d, W, Q, E, h, hq => by simp [noEff] at h
  | n + 1, d, W, Q, E, h, hq => by
    rw [f__law_spoilt_s, w_fnD]
    cases d with
    | tup xs =>
      simp only [noEff] at h
      simp [m__law_spoilt, startD]
      rw [w_wkF (b := true) (o := none) (us := xs.map RV.d) rfl]
      refine goForQ_inv (o := none) (P := fun i δ W' => W' = W ∧ δ.length = 3 ∧ δ[0]? = some (some (.d (.tup xs)))) (fun i δ W' hp => (trivial : True)) (fun i u δ W' hu hp => ?_) (fun δ W' hp => ?_) _ 0 _ W rfl (Nat.zero_le _) ⟨rfl, rfl, rfl⟩
      · obtain ⟨rfl, h1, h2⟩ := hp
        rw [List.getElem?_map] at hu
        cases hx : xs[i]? with
        | none => rw [hx] at hu; cases hu
        | some x =>
          rw [hx] at hu
          cases hu
          simp [p__law_spoilt_b1, List.getElem?_set, h1]
          exact spoilt_no n (List.all_eq_true.mp h x (List.mem_of_getElem? hx)) ⟨rfl, rfl, by rw [List.length_set, h1], by show (List.set δ 2 _)[0]? = _; rw [List.getElem?_set_ne (by decide)]; exact h2⟩
      · obtain ⟨rfl, h1, h2⟩ := hp
        simp [h2]
        exact hq
    | _ => first | (simp [noEff] at h; done) | (simp [m__law_spoilt, startD]; exact hq)
/-- a list at a label: its things one by one, then itself -/
theorem spoilt_at {n l : Nat} {us : List RV} (Wf : Nat → Wd) (h0 : Wf 0 = W) (hz : us.length < sizeLine) (hat : ∀ i, i ≤ us.length → (Wf i)[l]? = some (.lst us)) (hlen : ∀ i, (Wf i).length = W.length)
    (step : ∀ i u, us[i]? = some u → ∀ (Q : RV → Wd → Prop) (E : DX → Wd → Prop), Q (.d .non) (Wf (i + 1)) → wpM (f__law_spoilt n [u]) (Wf i) Q E) (hq : Q (.d .non) ((Wf us.length).set l (.lst (us ++ [.d (.str "LATE")])))) :
    wpM (f__law_spoilt (n + 1) [.r l]) W Q E := by
  subst h0
  rw [f__law_spoilt_s, w_fnD]
  have t0 := tyOf_at (hat 0 (Nat.zero_le _))
  simp [m__law_spoilt, startD, t0]
  rw [w_wkF (walkOf_at (hat 0 (Nat.zero_le _)))]
  refine goForQ_inv (P := fun i δ W' => i ≤ us.length ∧ W' = Wf i ∧ δ.length = 3 ∧ δ[0]? = some (some (.r l))) (fun i δ W' hp => ?_) (fun i u δ W' hu hp => ?_) (fun δ W' hp => ?_) _ 0 _ _ rfl (Nat.zero_le _) ⟨Nat.zero_le _, rfl, rfl, rfl⟩
  · obtain ⟨hi, rfl, _⟩ := hp
    exact hat i hi
  · obtain ⟨hi, rfl, h1, h2⟩ := hp
    simp [p__law_spoilt_b1, List.getElem?_set, h1]
    have lt := (List.getElem?_eq_some_iff.mp hu).1
    exact step i u hu _ _ ⟨rfl, lt, rfl, by rw [List.length_set, h1], by show (List.set δ 2 _)[0]? = _; rw [List.getElem?_set_ne (by decide)]; exact h2⟩
  · obtain ⟨_, rfl, h1, h2⟩ := hp
    have t1 := tyOf_at (hat us.length (Nat.le_refl _))
    have t2 := hat us.length (Nat.le_refl _)
    simp [h2, t1, t2, hz]
    rw [gcW_len (by rw [List.length_set, hlen, hlen])]
    exact hq
/-- a flat list at a label -/
theorem spoilt_flat {n l : Nat} {ds : List D} (hl : W[l]? = some (.lst (ds.map RV.d))) (hz : ds.length < sizeLine) (hn : ds.all (noEff n) = true) (hq : Q (.d .non) (W.set l (.lst ((ds ++ [D.str "LATE"]).map RV.d)))) : wpM (f__law_spoilt (n + 1) [.r l]) W Q E := by
  refine spoilt_at (fun _ => W) rfl (by rw [List.length_map]; exact hz) (fun _ _ => hl) (fun _ => rfl) (fun i u hu Q E q => ?_) (by rw [List.map_append] at hq; exact hq)
  rw [List.getElem?_map] at hu
  cases hx : ds[i]? with
  | none => rw [hx] at hu; cases hu
  | some x =>
    rw [hx] at hu
    cases hu
    exact spoilt_no n (List.all_eq_true.mp hn x (List.mem_of_getElem? hx)) q
/-! trees made pure -/
theorem toDDs_d : ∀ {n : Nat} {ds : List D}, toDDs n (ds.map RV.d) W = some (.ok ds, W)
  | n, [] => by rw [List.map_nil, toDDs]; rfl
  | n, d :: ds => by
    rw [List.map_cons, toDDs]
    have e : toDD n (.d d) = M.ret d := by cases n <;> rw [toDD]
    rw [e]
    show ((toDDs n (ds.map RV.d)).bind _) W = _
    unfold M.bind
    rw [toDDs_d]; rfl
theorem toDD_flat {n l : Nat} {ds : List D} (h : W[l]? = some (.lst (ds.map RV.d))) : toDD (n + 1) (.r l) W = some (.ok (.lst ds), W.set l (.fz (.lst ds))) := by
  rw [toDD]
  dsimp only
  rw [h]
  dsimp only
  unfold M.bind
  rw [toDDs_d]
  dsimp only
  unfold freezeAt
  rw [h]
def deepF (n : Nat) (u : RV) : M RV := (toDD n u).bind fun d => M.ret (.d d)
@[simp] theorem w_deep {n : Nat} {F : DL.Env → M RV} : wpM (evDeep n F δ) W Q E = wpM (F δ) W (kB (deepF n) Q E) E := propext wpM_bind
theorem w_deepF {n : Nat} {u : RV} {d : D} {W' : Wd} (h : toDD n u W = some (.ok d, W')) : wpM (deepF n u) W Q E = Q (.d d) W' := by
  unfold deepF
  rw [w_bind]
  unfold wpM
  rw [h]
  rfl
def late (ds : List D) : D := .lst (ds ++ [.str "LATE"])
/-- [told] apart -/
theorem apart1 {t l : Nat} {ds : List D} (ht : W[t]? = some (.lst [.r l])) (hl : W[l]? = some (.lst (ds.map RV.d))) (htl : t ≠ l) (hz : ds.length < 1000) (hn : ds.all (noEff 4) = true) (ho : onceOk 6 (late [late ds]) = true)
    (h : ∀ W', W'.length = W.length → (∀ i, i ≠ t → i ≠ l → W'[i]? = W[i]?) → Q (.d (.bl true)) W') : wpM (f__law_apart [.r t]) W Q E := by
  unfold f__law_apart
  rw [w_fnD]
  have lt1 := (List.getElem?_eq_some_iff.mp ht).1
  have lt2 := (List.getElem?_eq_some_iff.mp hl).1
  simp [m__law_apart, startD]
  refine spoilt_at (us := [.r l]) (fun i => if i = 0 then W else W.set l (.lst ((ds ++ [D.str "LATE"]).map RV.d))) rfl (by show 1 < sizeLine; decide) (fun i _ => ?_) (fun i => ?_) (fun i u hu Q E q => ?_) ?_
  · split
    · exact ht
    · rw [List.getElem?_set_ne (Ne.symm htl)]; exact ht
  · split <;> simp
  · match i, hu with
    | 0, hu =>
      cases hu
      exact spoilt_flat hl (small_line (by omega)) hn q
    | i + 1, hu => cases hu
  · rw [if_neg (by simp)]
    simp only [kB_ap, dropF_ap, w_ret, seqF_nx, w_evRet, w_callF, w_cons, w_deep, w_var]
    show wpM (deepF 8 (.r t)) _ _ _
    generalize hV : ((W.set l (.lst ((ds ++ [D.str "LATE"]).map RV.d))).set t (.lst ([.r l] ++ [.d (.str "LATE")]))) = V
    have v1 : V[t]? = some (.lst [.r l, .d (.str "LATE")]) := by
      subst hV
      rw [List.getElem?_set_self (by simpa using lt1)]; rfl
    have v2 : V[l]? = some (.lst ((ds ++ [D.str "LATE"]).map RV.d)) := by
      subst hV
      rw [List.getElem?_set_ne htl, List.getElem?_set_self lt2]
    have v3 : V.length = W.length := by subst hV; simp
    have v4 : ∀ i, i ≠ t → i ≠ l → V[i]? = W[i]? := by
      intro i h1 h2
      subst hV
      rw [List.getElem?_set_ne (Ne.symm h1), List.getElem?_set_ne (Ne.symm h2)]
    have dd : toDD 8 (.r t) V = some (.ok (late [late ds]), (V.set l (.fz (late ds))).set t (.fz (late [late ds]))) := by
      rw [toDD]
      dsimp only
      rw [v1]
      dsimp only
      unfold M.bind
      rw [toDDs]
      unfold M.bind
      rw [toDD_flat v2]
      dsimp only
      rw [show ([.d (.str "LATE")] : List RV) = ([.str "LATE"] : List D).map RV.d from rfl, toDDs_d]
      dsimp only [M.ret]
      unfold freezeAt
      rw [List.getElem?_set_ne (Ne.symm htl), v1]
      rfl
    rw [w_deepF dd]
    simp only [kB_ap, w_consA, w_nil, consB_ap, w_ret, w_callA]
    refine ⟨rfl, is_once 6 ho ?_⟩
    simp only [kB_ap, retF_ap, w_ret, kFn_rt, gcQ_d]
    rw [gcW_len (by simp [v3])]
    refine h _ (by simp [v3]) fun i h1 h2 => ?_
    rw [List.getElem?_set_ne (Ne.symm h1), List.getElem?_set_ne (Ne.symm h2), v4 i h1 h2]
/-- [told, told] apart -/
theorem apart2 {t l m : Nat} {ds es : List D} (ht : W[t]? = some (.lst [.r l, .r m])) (hl : W[l]? = some (.lst (ds.map RV.d))) (hm : W[m]? = some (.lst (es.map RV.d))) (htl : t ≠ l) (htm : t ≠ m) (hlm : l ≠ m) (hz : ds.length < 1000) (hze : es.length < 1000) (hn : ds.all (noEff 4) = true) (hne : es.all (noEff 4) = true) (ho : onceOk 6 (late [late ds, late es]) = true)
    (h : ∀ W', W'.length = W.length → (∀ i, i ≠ t → i ≠ l → i ≠ m → W'[i]? = W[i]?) → Q (.d (.bl true)) W') : wpM (f__law_apart [.r t]) W Q E := by
  unfold f__law_apart
  rw [w_fnD]
  have lt1 := (List.getElem?_eq_some_iff.mp ht).1
  have lt2 := (List.getElem?_eq_some_iff.mp hl).1
  have lt3 := (List.getElem?_eq_some_iff.mp hm).1
  simp [m__law_apart, startD]
  refine spoilt_at (us := [.r l, .r m]) (fun i => if i = 0 then W else if i = 1 then W.set l (.lst ((ds ++ [D.str "LATE"]).map RV.d)) else (W.set l (.lst ((ds ++ [D.str "LATE"]).map RV.d))).set m (.lst ((es ++ [D.str "LATE"]).map RV.d))) rfl (by show 2 < sizeLine; decide) (fun i _ => ?_) (fun i => ?_) (fun i u hu Q E q => ?_) ?_
  · split
    · exact ht
    · split
      · rw [List.getElem?_set_ne (Ne.symm htl)]; exact ht
      · rw [List.getElem?_set_ne (Ne.symm htm), List.getElem?_set_ne (Ne.symm htl)]; exact ht
  · split
    · rfl
    · split <;> simp
  · match i, hu with
    | 0, hu =>
      cases hu
      exact spoilt_flat hl (small_line (by omega)) hn q
    | 1, hu =>
      cases hu
      exact spoilt_flat (by show (List.set W l _)[m]? = _; rw [List.getElem?_set_ne hlm]; exact hm) (small_line (by omega)) hne q
    | i + 2, hu => cases hu
  · rw [if_neg (by simp), if_neg (by simp)]
    simp only [kB_ap, dropF_ap, w_ret, seqF_nx, w_evRet, w_callF, w_cons, w_deep, w_var]
    show wpM (deepF 8 (.r t)) _ _ _
    generalize hV : (((W.set l (.lst ((ds ++ [D.str "LATE"]).map RV.d))).set m (.lst ((es ++ [D.str "LATE"]).map RV.d))).set t (.lst ([.r l, .r m] ++ [.d (.str "LATE")]))) = V
    have v1 : V[t]? = some (.lst [.r l, .r m, .d (.str "LATE")]) := by
      subst hV
      rw [List.getElem?_set_self (by simpa using lt1)]; rfl
    have v2 : V[l]? = some (.lst ((ds ++ [D.str "LATE"]).map RV.d)) := by
      subst hV
      rw [List.getElem?_set_ne htl, List.getElem?_set_ne (Ne.symm hlm), List.getElem?_set_self lt2]
    have v2' : V[m]? = some (.lst ((es ++ [D.str "LATE"]).map RV.d)) := by
      subst hV
      rw [List.getElem?_set_ne htm, List.getElem?_set_self (by simpa using lt3)]
    have v3 : V.length = W.length := by subst hV; simp
    have v4 : ∀ i, i ≠ t → i ≠ l → i ≠ m → V[i]? = W[i]? := by
      intro i h1 h2 h3
      subst hV
      rw [List.getElem?_set_ne (Ne.symm h1), List.getElem?_set_ne (Ne.symm h3), List.getElem?_set_ne (Ne.symm h2)]
    have v5 : (V.set l (.fz (late ds)))[m]? = some (.lst ((es ++ [D.str "LATE"]).map RV.d)) := by rw [List.getElem?_set_ne hlm]; exact v2'
    have dd : toDD 8 (.r t) V = some (.ok (late [late ds, late es]), ((V.set l (.fz (late ds))).set m (.fz (late es))).set t (.fz (late [late ds, late es]))) := by
      rw [toDD]
      dsimp only
      rw [v1]
      dsimp only
      unfold M.bind
      rw [toDDs]
      unfold M.bind
      rw [toDD_flat v2]
      dsimp only
      rw [toDDs]
      unfold M.bind
      rw [show (D.lst (ds ++ [D.str "LATE"])) = late ds from rfl, toDD_flat v5]
      dsimp only
      rw [show ([.d (.str "LATE")] : List RV) = ([.str "LATE"] : List D).map RV.d from rfl, toDDs_d]
      dsimp only [M.ret]
      unfold freezeAt
      rw [List.getElem?_set_ne (Ne.symm htm), List.getElem?_set_ne (Ne.symm htl), v1]
      rfl
    rw [w_deepF dd]
    simp only [kB_ap, w_consA, w_nil, consB_ap, w_ret, w_callA]
    refine ⟨rfl, is_once 6 ho ?_⟩
    simp only [kB_ap, retF_ap, w_ret, kFn_rt, gcQ_d]
    rw [gcW_len (by simp [v3])]
    refine h _ (by simp [v3]) fun i h1 h2 h3 => ?_
    rw [List.getElem?_set_ne (Ne.symm h1), List.getElem?_set_ne (Ne.symm h3), List.getElem?_set_ne (Ne.symm h2), v4 i h1 h2 h3]
end
end SH
set_option Elab.async false
set_option linter.all false
set_option maxRecDepth 100000
set_option maxHeartbeats 4000000
set_option exponentiation.threshold 2000
/-! SBO: _law_mixed; draws in comprehensions. -/
namespace SH
open PySem PySem.Spec PyProof.Rows L2 RZ DL
noncomputable section
variable {E : DX → Wd → Prop} {Q : RV → Wd → Prop} {δ : DL.Env}
theorem strm_last {s : Strm} {J : Wd} {m : MO} : (s.W (J ++ [m]))[J.length + 2]? = some m := by
  show ((_ :: _ :: (J ++ [m])) : Wd)[J.length + 2]? = some m
  simp
theorem strm_set {s : Strm} {J : Wd} {m m' : MO} : (s.W (J ++ [m])).set (J.length + 2) m' = s.W (J ++ [m']) := by
  unfold Strm.W
  simp
theorem intsFrom_len {lo : Int} {n : Nat} : (DL.intsFrom lo n).length = n := by unfold DL.intsFrom; simp
theorem mixed {J : Wd} {s : Strm} {N : Nat} {xs : List D} (ok : s.ok N) (hN : N + 1000 < 2 ^ 40) (hz : xs.length < 1000)
    (h : ∀ (ys : List D) (s' : Strm), (∀ y ∈ ys, y ∈ xs) → ys.length = xs.length → s'.ok (N + xs.length) → Q (.d (.lst ys)) (s'.W J)) : wpM (f__law_mixed [.r 1, .d (.lst xs)]) (s.W J) Q E := by
  unfold f__law_mixed
  rw [w_fnD]
  simp [m__law_mixed, startD]
  refine ⟨by omega, ?_⟩
  refine w_noEr ?_
  refine goLc_inv (P := fun i acc W' => ∃ (left ys : List D) (s' : Strm), acc = ys.map RV.d ∧ (∀ y ∈ ys, y ∈ xs) ∧ (∀ y ∈ left, y ∈ xs) ∧ left.length + i = xs.length ∧ ys.length = i ∧ W' = s'.W (J ++ [.lst (left.map RV.d)]) ∧ s'.ok (N + i)) (DL.intsFrom 0 xs.length) (by rw [intsFrom_len]; exact small_line (by omega)) (fun i d acc W' hd hp => ?_) _ 0 [] _ rfl (Nat.zero_le _) (Nat.le_refl _) ⟨xs, [], s, rfl, by simp, fun _ y => y, rfl, rfl, rfl, ok⟩ fun acc W' _ hp => ?_
  · obtain ⟨left, ys, s', rfl, h1, h2, h3, h4, rfl, ok'⟩ := hp
    have hi : i < xs.length := by
      have := (List.getElem?_eq_some_iff.mp hd).1
      rwa [intsFrom_len] at this
    simp [p__law_mixed_e1, wipeD, evYes, strm_last]
    refine below ok' (by omega) (by omega) (by have : left.length < 2 ^ 200 := by omega
                                               exact_mod_cast this) _ fun j s2 hj0 hj1 ok2 => ?_
    simp [strm_last]
    have lt : j.toNat < left.length := by omega
    rw [popK_at (k := j.toNat) (y := .d left[j.toNat]) hj0 rfl (by simp [lt]) (by omega)]
    rw [strm_set]
    refine ⟨left.eraseIdx j.toNat, ys ++ [left[j.toNat]], by simp, ?_, ?_, ?_, by simp [h4], s2, by rw [List.eraseIdx_eq_take_drop_succ, List.eraseIdx_eq_take_drop_succ]; simp, ok2⟩
    · intro y hy
      rcases List.mem_append.mp hy with z | z
      · exact h1 y z
      · rw [List.mem_singleton.mp z]; exact h2 _ (List.getElem_mem lt)
    · intro y hy
      exact h2 y (List.mem_of_mem_eraseIdx hy)
    · rw [List.length_eraseIdx_of_lt lt]; omega
  · obtain ⟨left, ys, s', rfl, h1, h2, h3, h4, rfl, ok'⟩ := hp
    rw [intsFrom_len] at h4 ok'
    rw [w_newL_f]
    simp
    exact h ys s' h1 h4 ok'
/-- a comprehension that draws ints -/
theorem lc_drawI {T : RV → DL.Env → M DL.Env} {F : DL.Env → M RV} {J : Wd} {s : Strm} {N c : Nat} {ds : List D} (G : Int → Prop) (ok : s.ok N) (hz : ds.length < 1000)
    (step : ∀ d ∈ ds, ∀ (s' : Strm) (M : Nat), s'.ok M → M ≤ N + c * ds.length → wpM (T (.d d) δ) (s'.W J) (fun δ1 W1 => wpM (F δ1) W1 (fun v W3 => ∃ (i : Int) (s2 : Strm), v = .d (.int i) ∧ G i ∧ W3 = s2.W J ∧ s2.ok (M + c)) fun _ _ => False) fun _ _ => False)
    (h : ∀ (r : List Int) (s' : Strm), r.length = ds.length → (∀ i ∈ r, G i) → s'.ok (N + c * ds.length) → Q (.d (lI r)) (s'.W J)) : wpM (lcF false T evYes F δ ds) (s.W J) Q E := by
  refine w_noEr ?_
  refine goLc_inv (P := fun i acc W' => ∃ (r : List Int) (s' : Strm), acc = (dI r).map RV.d ∧ r.length = i ∧ i ≤ ds.length ∧ (∀ i ∈ r, G i) ∧ W' = s'.W J ∧ s'.ok (N + c * i)) ds (small_line (by omega)) (fun i d acc W' hd hp => ?_) _ 0 [] _ rfl (Nat.zero_le _) (Nat.le_refl _) ⟨[], s, rfl, rfl, Nat.zero_le _, by simp, rfl, ok⟩ fun acc W' _ hp => ?_
  · obtain ⟨r, s', rfl, h1, h2, h3, rfl, ok'⟩ := hp
    have hi := (List.getElem?_eq_some_iff.mp hd).1
    refine wpM_and (step d (List.mem_of_getElem? hd) s' _ ok' (by have := Nat.mul_le_mul_left c h2; omega)) fun δ1 W1 q => ?_
    refine wpM_and (show wpM (evYes δ1) W1 (fun b W2 => b = true ∧ W2 = W1) _ from ⟨rfl, rfl⟩) fun b W2 hb => ?_
    obtain ⟨rfl, rfl⟩ := hb
    rw [if_pos rfl]
    refine wpM_and q fun v W3 q => ?_
    obtain ⟨j, s2, rfl, gj, rfl, ok2⟩ := q
    refine ⟨r ++ [j], s2, by simp, by simp [h1], hi, ?_, rfl, by rw [Nat.mul_succ, ← Nat.add_assoc]; exact ok2⟩
    intro k hk
    rcases List.mem_append.mp hk with z | z
    · exact h3 k z
    · rw [List.mem_singleton.mp z]; exact gj
  · obtain ⟨r, s', rfl, h1, h2, h3, rfl, ok'⟩ := hp
    rw [w_newL_f]
    exact h r s' h1 h3 ok'
end
end SH
set_option Elab.async false
set_option linter.all false
set_option maxRecDepth 100000
set_option maxHeartbeats 4000000
set_option exponentiation.threshold 2000
namespace K18
open PySem PySem.Spec PyProof.Rows L2 RZ DL SH
noncomputable section
variable {E : DX → Wd → Prop} {Q : RV → Wd → Prop} {δ : DL.Env} {J : Wd} {s : Strm} {N : Nat}
theorem chance {n : Int} (ok : s.ok N) (hN : N < 2 ^ 40) (h0 : 0 < n) (h1 : n < 2 ^ 200) (h : ∀ (b : Bool) (s' : Strm), s'.ok (N + 1) → Q (.d (.bl b)) (s'.W J)) : wpM (f__law_chance [.r 1, .d (.int n)]) (s.W J) Q E := by
  unfold f__law_chance
  rw [w_fnD]
  simp [m__law_chance, startD]
  refine below ok hN h0 h1 _ fun i s' _ _ ok' => ?_
  simp
  exact h _ s' ok'
theorem bnumber (ok : s.ok N) (hN : N + 10 < 2 ^ 40) (h : ∀ (i : Int) (s' : Strm), i.natAbs < 1000 → s'.ok (N + 2) → Q (.d (.int i)) (s'.W J)) : wpM (f__law_bnumber [.r 1]) (s.W J) Q E := by
  unfold f__law_bnumber
  rw [w_fnD]
  simp [m__law_bnumber, startD]
  refine chance ok (by omega) (by decide) (by decide) fun b s' ok' => ?_
  simp
  cases b with
  | true =>
    simp
    refine below ok' (by omega) (by decide) (by decide) _ fun i s2 h0 h1 ok2 => ?_
    simp
    exact h _ s2 (by omega) ok2
  | false =>
    simp
    refine below ok' (by omega) (by decide) (by decide) _ fun i s2 h0 h1 ok2 => ?_
    simp
    exact h _ s2 (by omega) ok2
theorem loose_int {n : Nat} {i : Int} {W : Wd} (h : Q (.d (.int i)) W) : wpM (f__law_loose (n + 1) [.r 1, .d (.int i)]) W Q E := by
  rw [f__law_loose_s, w_fnD]
  simp [m__law_loose, startD]
  exact h
theorem loose {n : Nat} {x : List Int} (ok : s.ok N) (hN : N + 10 < 2 ^ 40) (hz : x.length < 1000) (h : ∀ (t : Bool) (s' : Strm), s'.ok (N + 1) → Q (.d (sq t (dI x))) (s'.W J)) : wpM (f__law_loose (n + 2) [.r 1, .d (lI x)]) (s.W J) Q E := by
  rw [f__law_loose_s, w_fnD]
  simp [m__law_loose, startD]
  rw [lc_map (T := gtName 4) x D.int D.int (small_line (by omega)) (fun i _ => ?s1)]
  case s1 =>
    simp [wipeD, p__law_loose_e1]
    exact loose_int ⟨rfl, rfl⟩
  simp
  refine below ok (by omega) (by decide) (by decide) _ fun i s' _ _ ok' => ?_
  simp
  by_cases hi : i = 0
  · simp [hi]
    exact h false s' ok'
  · simp [hi]
    exact h true s' ok'
/-- one register -/
theorem draw_x {n P0 : Nat} (h1 : δ[1]? = some (some (.r 1))) (ok : s.ok N) (hN : N + 10 < 2 ^ 40) (h : ∀ (i : Int) (s' : Strm), i.natAbs < 2 ^ 200 → s'.ok (N + 4) → Q (.d (.int i)) (s'.W J)) : wpM (p_law_e17 n P0 δ) (s.W J) Q E := by
  simp [p_law_e17, h1]
  refine bnumber ok hN fun i s1 hi ok1 => ?_
  simp [h1]
  refine ⟨⟨by decide, by decide, by decide⟩, ?_⟩
  refine below ok1 (by omega) (by decide) (by decide) _ fun j s2 hj0 hj1 ok2 => ?_
  simp
  refine ⟨⟨by decide, by decide, by decide⟩, ?_⟩
  refine pick (N := N + 2 + 1) ok2 (by omega) (by simp) (by simp) _ fun x s3 hx ok3 => ?_
  simp at hx
  rcases hx with rfl | rfl
  · exact h i s3 (Nat.lt_trans hi (by decide)) ok3
  · exact h _ s3 (by omega) ok3
end
end K18
set_option Elab.async false
set_option linter.all false
set_option maxRecDepth 100000
set_option maxHeartbeats 4000000
set_option exponentiation.threshold 2000
namespace K18
open PySem PySem.Spec PyProof.Rows L2 RZ DL SH
noncomputable section
variable {E : DX → Wd → Prop} {Q : RV → Wd → Prop} {δ : DL.Env} {W : Wd} {K : Wd} {s : Strm} {N : Nat}
theorem w_catchM {nm : DX → M RV} {m : M RV} : wpM (catchM nm m) W Q E = wpM m W (fun _ W' => Q (.d .non) W') (fun e W' => wpM (nm e) W' Q E) := by
  unfold catchM wpM
  dsimp only
  cases m W with
  | none => rfl
  | some p =>
    obtain ⟨r, W'⟩ := p
    cases r <;> rfl
theorem lamOf_ix {i : Nat} {e : Expr} {q : Str} : (lamOf i e q).ix = i := by unfold lamOf; split <;> rfl
theorem pickL_pos {c : List (Str × Addr)} {L : LamI} {F : DL.Env → M RV} {r : List (LamI × (DL.Env → M RV))} : pickL c ((L, F) :: r) L (cloFrom c L.scope.names []) = some F := by
  unfold pickL
  rw [if_pos ⟨rfl, rfl⟩]
theorem pickL_neg {c : List (Str × Addr)} {L L0 : LamI} {F : DL.Env → M RV} {r : List (LamI × (DL.Env → M RV))} {cl : List (Str × Addr)} (h : L.ix ≠ L0.ix) : pickL c ((L0, F) :: r) L cl = pickL c r L cl := by
  rw [pickL, if_neg (fun z => h (by rw [z.1]))]
theorem pick1 {n : Nat} : pickL (cells0 n) (tab n) L_1 (cloFrom (cells0 n) L_1.scope.names []) = some F_1 := pickL_pos
theorem pick2 {n : Nat} : pickL (cells0 n) (tab n) L_2 (cloFrom (cells0 n) L_2.scope.names []) = some F_2 := by
  rw [pickL_neg (by rw [lamOf_ix, lamOf_ix]; decide)]; exact pickL_pos
theorem pick3 {n : Nat} : pickL (cells0 n) (tab n) L_3 (cloFrom (cells0 n) L_3.scope.names []) = some F_3 := by
  rw [pickL_neg (by rw [lamOf_ix, lamOf_ix]; decide), pickL_neg (by rw [lamOf_ix, lamOf_ix]; decide)]; exact pickL_pos
theorem pick4 {n : Nat} : pickL (cells0 n) (tab n) L_4 (cloFrom (cells0 n) L_4.scope.names []) = some F_4 := by
  rw [pickL_neg (by rw [lamOf_ix, lamOf_ix]; decide), pickL_neg (by rw [lamOf_ix, lamOf_ix]; decide), pickL_neg (by rw [lamOf_ix, lamOf_ix]; decide)]; exact pickL_pos
theorem pick5 {n : Nat} : pickL (cells0 n) (tab n) L_5 (cloFrom (cells0 n) L_5.scope.names []) = some F_5 := by
  rw [pickL_neg (by rw [lamOf_ix, lamOf_ix]; decide), pickL_neg (by rw [lamOf_ix, lamOf_ix]; decide), pickL_neg (by rw [lamOf_ix, lamOf_ix]; decide), pickL_neg (by rw [lamOf_ix, lamOf_ix]; decide)]; exact pickL_pos
/-- a call that refuses as told -/
theorem refuses {n : Nat} {w cls : Str} {d : D} {L : LamI} {F : DL.Env → M RV} {R : DL.Env → M (List RV)} (hp : pickL (cells0 n) (tab n) L (cloFrom (cells0 n) L.scope.names []) = some F) (hn : nms.lookup cls = some (("thing" : Str), w)) (hd : sok 6 d = true)
    (hR : R δ = M.ret [.d (.str w), .d d, .d (.lam L (cloFrom (cells0 n) L.scope.names []))]) (hF : ∀ (Q : RV → Wd → Prop) (E : DX → Wd → Prop), E ⟨cls, [("thing", d)]⟩ W → wpM (F δ) W Q E) (h : Q (.d (.bl true)) W) :
    wpM (evRefuses (cells0 n) (tab n) (nmT nms) m__law_brefuses R δ) W Q E := by
  unfold evRefuses
  rw [hR, w_bind, w_ret, kB_ap]
  dsimp only
  rw [hp, w_bind, w_opt, kB_ap]
  refine w_noEr ?_
  unfold refM
  rw [w_bind, w_catchM]
  refine hF _ _ (nmT_of hn ?_)
  rw [kB_ap, w_bind]
  simp [m__law_brefuses]
  refine same_refl 6 d hd _ _ _ ?_
  simp
  exact h
def qn : Str := ("law" : Str) ++ ".<locals>." ++ "<lambda>"
def Tb (P0 : Nat) (K : Wd) : Prop := K[0]? = some (.tbl P0 qn)
theorem Tb.app {P0 : Nat} {K X : Wd} (h : Tb P0 K) : Tb P0 (K ++ X) := by
  unfold Tb at h ⊢
  cases K with
  | nil => cases h
  | cons a r => exact h
theorem w_lam {P0 : Nat} {L : LamI} {cl : List (Str × Addr)} (hK : Tb P0 K) (hq : L.qual = qn) : wpM (evLam L cl P0 2 δ) (s.W K) Q E = Q (.d (.lam L cl)) (s.W K) := by
  unfold evLam
  rw [w_look]
  have e : (s.W K)[2]? = some (.tbl P0 qn) := hK
  rw [e]
  dsimp only
  rw [if_pos ⟨rfl, hq.symm⟩]
  rfl
theorem q1 : L_1.qual = qn := by rfl
theorem q2 : L_2.qual = qn := by rfl
theorem q3 : L_3.qual = qn := by rfl
theorem q4 : L_4.qual = qn := by rfl
theorem q5 : L_5.qual = qn := by rfl
end
end K18
set_option Elab.async false
set_option linter.all false
set_option maxRecDepth 100000
set_option maxHeartbeats 4000000
set_option exponentiation.threshold 2000
namespace K18
open PySem PySem.Spec PyProof.Rows L2 RZ DL SH
noncomputable section
variable {E : DX → Wd → Prop} {QS : Fl × DL.Env → Wd → Prop} {δ : DL.Env} {K : Wd} {s : Strm} {N : Nat}
def it (n : Nat) (w : Str) (d : D) (L : LamI) : D := .tup [.str w, d, .lam L (cloFrom (cells0 n) L.scope.names [])]
theorem segA {n P0 : Nat} {a0 a3 a4 a5 a6 a7 a8 a9 a14 a15 a16 a17 a18 m : Option RV} {bad wrong norows size : D} (hK : Tb P0 K)
    (ok : s.ok N) (hN : N + 2000 < 2 ^ 40)
    (h : ∀ (K' : Wd) (a14' : Option RV) (ys : List D) (s' : Strm), Tb P0 K' → s'.ok (N + 5) → (∀ y ∈ ys, y ∈ [it n "many" bad L_5, it n "registers" wrong L_4, it n "equation" norows L_3, it n "registers" wrong L_2, it n "registers" size L_1]) → wpM (goFor (gtUnp 3 (gtCons (gtName 15) (gtCons (gtName 16) (gtCons (gtName 17) gtNil)))) (p_law_b1 n P0) ys [a0, some (.r 1), m, a3, a4, a5, a6, a7, a8, a9, some (.d bad), some (.d wrong), some (.d norows), some (.d size), a14', a15, a16, a17, a18]) (s'.W K') QS E) :
    wpM (p_law_s6 n P0 [a0, some (.r 1), m, a3, a4, a5, a6, a7, a8, a9, some (.d bad), some (.d wrong), some (.d norows), some (.d size), a14, a15, a16, a17, a18]) (s.W K) QS E := by
  simp [p_law_s6]
  rw [w_lam hK q5]
  simp [p_law_s5]
  rw [w_lam hK.app q4]
  simp [strm_last, strm_set, p_law_s4]
  rw [w_lam hK.app q3]
  simp [strm_last, strm_set, p_law_s3]
  rw [w_lam hK.app q2]
  simp [strm_last, strm_set, p_law_s2]
  rw [w_lam hK.app q1]
  simp [strm_last, strm_set]
  refine mixed ok (by omega) (by show 5 < 1000; decide) fun ys s' h1 _ ok' => ?_
  simp
  exact h _ _ ys s' hK.app ok' h1
/-- all refusals are told -/
theorem loop {n P0 : Nat} {a0 m a3 a4 a5 a7 a8 a9 a14 a15 a16 a17 a18 : Option RV} {bad wrong norows size : D} {e : List Int} {k : Nat} (hk : k = 1 ∨ k = 2 ∨ k = 3) (he : e.length = (prs k).length)
    (b1 : kd bad = true) (b2 : okM bad = false) (b3 : sok 6 bad = true) (w1 : kds wrong = true) (w2 : okR wrong 1 3 = false) (w3 : okR wrong k k = false) (w4 : sok 6 wrong = true)
    (n1 : kds norows = true) (n2 : okE norows = false) (n3 : sok 6 norows = true) (z1 : kds size = true) (z2 : okR size k k = false) (z3 : sok 6 size = true)
    {ys : List D} (hy : ∀ y ∈ ys, y ∈ [it n "many" bad L_5, it n "registers" wrong L_4, it n "equation" norows L_3, it n "registers" wrong L_2, it n "registers" size L_1])
    (h : ∀ (a15 a16 a17 : Option RV), QS (.nx, [a0, some (.r 1), m, a3, a4, a5, some (.d (lI e)), a7, a8, a9, some (.d bad), some (.d wrong), some (.d norows), some (.d size), a14, a15, a16, a17, a18]) (s.W K)) :
    wpM (goFor (gtUnp 3 (gtCons (gtName 15) (gtCons (gtName 16) (gtCons (gtName 17) gtNil)))) (p_law_b1 n P0) ys [a0, some (.r 1), m, a3, a4, a5, some (.d (lI e)), a7, a8, a9, some (.d bad), some (.d wrong), some (.d norows), some (.d size), a14, a15, a16, a17, a18]) (s.W K) QS E := by
  refine wpM_mono (goFor_inv (P := fun _ δ W => W = s.W K ∧ ∃ (a15 a16 a17 : Option RV), δ = [a0, some (.r 1), m, a3, a4, a5, some (.d (lI e)), a7, a8, a9, some (.d bad), some (.d wrong), some (.d norows), some (.d size), a14, a15, a16, a17, a18]) ys (fun i d δ W hd hp => ?_) ys 0 _ _ rfl (Nat.zero_le _) ⟨rfl, _, _, _, rfl⟩) (fun p W' hp => ?_) fun _ _ z => z
  · obtain ⟨rfl, a15, a16, a17, rfl⟩ := hp
    have hy2 := hy d (List.mem_of_getElem? hd)
    have go : ∀ (w cls : Str) (d : D) (L : LamI) (F : DL.Env → M RV), pickL (cells0 n) (tab n) L (cloFrom (cells0 n) L.scope.names []) = some F → nms.lookup cls = some (("thing" : Str), w) → sok 6 d = true →
        (∀ (Q : RV → Wd → Prop) (E : DX → Wd → Prop), E ⟨cls, [("thing", d)]⟩ (s.W K) → wpM (F [a0, some (.r 1), m, a3, a4, a5, some (.d (lI e)), a7, a8, a9, some (.d bad), some (.d wrong), some (.d norows), some (.d size), a14, some (.d (.str w)), some (.d d), some (.d (.lam L (cloFrom (cells0 n) L.scope.names []))), a18]) (s.W K) Q E) →
        wpM (gtUnp 3 (gtCons (gtName 15) (gtCons (gtName 16) (gtCons (gtName 17) gtNil))) (.d (it n w d L)) [a0, some (.r 1), m, a3, a4, a5, some (.d (lI e)), a7, a8, a9, some (.d bad), some (.d wrong), some (.d norows), some (.d size), a14, a15, a16, a17, a18]) (s.W K) (kB (fun δ1 => p_law_b1 n P0 δ1) (fun p W' => (p.1 = .nx ∨ p.1 = .ct) ∧ W' = s.W K ∧ ∃ (a15 a16 a17 : Option RV), p.2 = [a0, some (.r 1), m, a3, a4, a5, some (.d (lI e)), a7, a8, a9, some (.d bad), some (.d wrong), some (.d norows), some (.d size), a14, a15, a16, a17, a18]) E) E := fun w cls d L F hp hn hs hF => by
      simp [it, p_law_b1]
      refine refuses hp hn hs rfl hF ?_
      simp
    simp only [List.mem_cons, List.not_mem_nil, or_false] at hy2
    rcases hy2 with rfl | rfl | rfl | rfl | rfl
    · refine go _ "BadMany" _ _ _ pick5 (by decide +kernel) b3 fun Q E q => ?_
      simp [F_5]
      exact monomials_no b1 b2 q
    · refine go _ "BadRegisters" _ _ _ pick4 (by decide +kernel) w4 fun Q E q => ?_
      simp [F_4]
      exact lift_no w1 w2 q
    · refine go _ "BadEquation" _ _ _ pick3 (by decide +kernel) n3 fun Q E q => ?_
      simp [F_3]
      exact value_at_noE n1 n2 q
    · refine go _ "BadRegisters" _ _ _ pick2 (by decide +kernel) w4 fun Q E q => ?_
      simp [F_2]
      exact value_at_noR (t := false) hk he w1 w3 q
    · refine go _ "BadRegisters" _ _ _ pick1 (by decide +kernel) z3 fun Q E q => ?_
      simp [F_1]
      exact value_at_noR (t := false) hk he z1 z2 q
  · obtain ⟨f, δ'⟩ := p
    obtain ⟨rfl, rfl, a15, a16, a17, hδ⟩ := hp
    dsimp only at hδ
    subst hδ
    exact h a15 a16 a17
end
end K18
set_option Elab.async false
set_option linter.all false
set_option maxRecDepth 100000
set_option maxHeartbeats 4000000
set_option exponentiation.threshold 2000
namespace K18
open PySem PySem.Spec PyProof.Rows L2 RZ DL SH
noncomputable section
variable {E : DX → Wd → Prop} {QS : Fl × DL.Env → Wd → Prop} {δ : DL.Env} {K : Wd} {s : Strm} {N : Nat}
structure BadOk (d : D) : Prop where
  a : kd d = true
  b : okM d = false
  c : sok 6 d = true
structure WrongOk (k : Nat) (d : D) : Prop where
  a : kds d = true
  b : okR d 1 3 = false
  c : okR d k k = false
  d : sok 6 d = true
structure NoRowsOk (d : D) : Prop where
  a : kds d = true
  b : okE d = false
  c : sok 6 d = true
theorem bad_ok {d : D} (h : d ∈ [D.int 0, D.int 4, D.non, D.bl true, D.str "1", D.lst [D.int 1]]) : BadOk d := by
  simp only [List.mem_cons, List.not_mem_nil, or_false] at h
  rcases h with rfl | rfl | rfl | rfl | rfl | rfl <;> exact ⟨rfl, rfl, by decide⟩
theorem kd_dI {x : List Int} {y : D} (h : y ∈ dI x) : kd y = true := by
  obtain ⟨i, _, rfl⟩ := List.mem_map.mp h; rfl
theorem sok_dI {n : Nat} {x : List Int} {y : D} (h : y ∈ dI x) : sok (n + 1) y = true := by
  obtain ⟨i, _, rfl⟩ := List.mem_map.mp h; rfl
theorem kds_lst {xs : List D} (hz : xs.length < 1000) (h : ∀ y ∈ xs, kd y = true) : kds (.lst xs) = true := by
  simp [kds, kd, pts]
  exact ⟨hz, h⟩
theorem sok_lst {n : Nat} {xs : List D} (hz : xs.length < 1000) (h : ∀ y ∈ xs, sok n y = true) : sok (n + 1) (.lst xs) = true := by
  simp [sok]
  exact ⟨small_line (by omega), h⟩
theorem mem_app {p : D → Prop} {xs ys : List D} (h1 : ∀ y ∈ xs, p y) (h2 : ∀ y ∈ ys, p y) : ∀ y ∈ xs ++ ys, p y := by
  intro y hy
  rcases List.mem_append.mp hy with z | z
  · exact h1 y z
  · exact h2 y z
theorem mem_one {p : D → Prop} {a : D} (h : p a) : ∀ y ∈ [a], p y := by
  intro y hy
  rw [List.mem_singleton.mp hy]; exact h
theorem wrong_ok {x : List Int} {k : Nat} (hk : k = 1 ∨ k = 2 ∨ k = 3) (hx : x.length = k) {d : D}
    (h : d ∈ [D.lst [], D.lst (dI x ++ List.replicate (4 - k) (D.int 0)), D.non, D.int 5, D.str "ab", D.lst ((dI x).tail ++ [D.bl true]), D.lst ((dI x).tail ++ [D.non]), D.tup [lI x]]) : WrongOk k d := by
  simp only [List.mem_cons, List.not_mem_nil, or_false] at h
  have kt : ∀ y ∈ (dI x).tail, kd y = true := fun y hy => kd_dI (List.mem_of_mem_tail hy)
  have st : ∀ y ∈ (dI x).tail, sok 5 y = true := fun y hy => sok_dI (List.mem_of_mem_tail hy)
  have lt : (dI x).tail.length < 100 := by simp; omega
  have lt2 : (dI x).length < 100 := by simp; omega
  rcases h with rfl | rfl | rfl | rfl | rfl | rfl | rfl | rfl
  · exact ⟨by decide, by decide, by simp [okR, pts]; omega, by decide⟩
  · have kr : ∀ y ∈ List.replicate (4 - k) (D.int 0), kd y = true := fun y hy => by rw [(List.mem_replicate.mp hy).2]; rfl
    have sr : ∀ y ∈ List.replicate (4 - k) (D.int 0), sok 5 y = true := fun y hy => by rw [(List.mem_replicate.mp hy).2]; rfl
    refine ⟨kds_lst (by simp; omega) (mem_app (fun _ => kd_dI) kr), ?_, ?_, sok_lst (by simp; omega) (mem_app (fun _ => sok_dI) sr)⟩
    · simp [okR, pts]; omega
    · simp [okR, pts]; omega
  · exact ⟨by decide, by decide, by rfl, by decide⟩
  · exact ⟨by decide, by decide, by rfl, by decide⟩
  · exact ⟨by decide, by decide, by rfl, by decide⟩
  · refine ⟨kds_lst (by rw [List.length_append]; simp only [List.length_singleton]; omega) (mem_app kt (mem_one rfl)), ?_, ?_, sok_lst (by rw [List.length_append]; simp only [List.length_singleton]; omega) (mem_app st (mem_one rfl))⟩
    · simp [okR, pts, isI]
    · simp [okR, pts, isI]
  · refine ⟨kds_lst (by rw [List.length_append]; simp only [List.length_singleton]; omega) (mem_app kt (mem_one rfl)), ?_, ?_, sok_lst (by rw [List.length_append]; simp only [List.length_singleton]; omega) (mem_app st (mem_one rfl))⟩
    · simp [okR, pts, isI]
    · simp [okR, pts, isI]
  · have s5 : sok 5 (lI x) = true := sok_lst (by omega) (fun _ => sok_dI)
    refine ⟨rfl, rfl, ?_, ?_⟩
    · simp [okR, pts, isI]
    · show (decide ([lI x].length < sizeLine) && [lI x].all (sok 5)) = true
      rw [List.all_cons, s5, decide_eq_true (show [lI x].length < sizeLine by show 1 < sizeLine; decide)]
      rfl
theorem norows_ok {e : List Int} {k : Nat} (hk : k = 1 ∨ k = 2 ∨ k = 3) (he : e.length = (prs k).length) {d : D}
    (h : d ∈ [D.lst [], D.lst ((dI e).tail), D.lst (dI e ++ [D.int 0, D.int 0]), D.non, D.int 7, D.lst ((dI e).tail ++ [D.bl true]), D.lst ((dI e).tail ++ [D.str "1"])]) : NoRowsOk d := by
  simp only [List.mem_cons, List.not_mem_nil, or_false] at h
  have pl := prs_len hk
  have kt : ∀ y ∈ (dI e).tail, kd y = true := fun y hy => kd_dI (List.mem_of_mem_tail hy)
  have st : ∀ y ∈ (dI e).tail, sok 5 y = true := fun y hy => sok_dI (List.mem_of_mem_tail hy)
  have lt : (dI e).tail.length < 100 := by simp; omega
  have lt2 : (dI e).length < 100 := by simp; omega
  have no : ∀ {xs : List D}, (xs.length = 2 ∨ xs.length = 5 ∨ xs.length = 9 ∨ xs.length = 8 ∨ xs.length = 12) → okE (.lst xs) = false := fun {xs} hl => by
    unfold okE pts
    dsimp only
    rcases hl with h | h | h | h | h <;> rw [h] <;> rfl
  rcases h with rfl | rfl | rfl | rfl | rfl | rfl | rfl
  · exact ⟨by decide, by decide, by decide⟩
  · exact ⟨kds_lst (by omega) kt, no (by simp; omega), sok_lst (by omega) st⟩
  · have k2 : ∀ y ∈ [D.int 0, D.int 0], kd y = true := by simp [kd]
    have s2 : ∀ y ∈ [D.int 0, D.int 0], sok 5 y = true := by simp [sok]
    exact ⟨kds_lst (by simp; omega) (mem_app (fun _ => kd_dI) k2), no (by simp; omega), sok_lst (by simp; omega) (mem_app (fun _ => sok_dI) s2)⟩
  · exact ⟨by decide, by decide, by decide⟩
  · exact ⟨by decide, by decide, by decide⟩
  · refine ⟨kds_lst (by rw [List.length_append]; simp only [List.length_singleton]; omega) (mem_app kt (mem_one rfl)), ?_, sok_lst (by rw [List.length_append]; simp only [List.length_singleton]; omega) (mem_app st (mem_one rfl))⟩
    simp [okE, pts, isI]
  · refine ⟨kds_lst (by rw [List.length_append]; simp only [List.length_singleton]; omega) (mem_app kt (mem_one rfl)), ?_, sok_lst (by rw [List.length_append]; simp only [List.length_singleton]; omega) (mem_app st (mem_one rfl))⟩
    simp [okE, pts, isI]
theorem segB {n P0 : Nat} {a0 a3 a5 a7 a8 a9 a10 a11 a12 a13 a14 a15 a16 a17 a18 : Option RV} {x e : List Int} {k : Nat} (hk : k = 1 ∨ k = 2 ∨ k = 3) (hx : x.length = k) (he : e.length = (prs k).length) (hK : Tb P0 K) (ok : s.ok N) (hN : N + 3000 < 2 ^ 40)
    (h : ∀ (K' : Wd) (s' : Strm) (δ' : DL.Env), Tb P0 K' → s'.ok (N + 8) → δ'.length = 19 → δ'[1]? = some (some (.r 1)) → QS (.nx, δ') (s'.W K')) :
    wpM (p_law_s10 n P0 [a0, some (.r 1), some (.d (.int (k : Nat))), a3, some (.d (lI x)), a5, some (.d (lI e)), a7, a8, a9, a10, a11, a12, a13, a14, a15, a16, a17, a18]) (s.W K) QS E := by
  have hz : e.length < 1000 := by have := prs_len hk; omega
  have e1 : cutL (dI x) (some 1) none = (dI x).drop 1 := cutL_drop _ 1
  have e2 : cutL (dI e) (some 1) none = (dI e).drop 1 := cutL_drop _ 1
  simp [p_law_s10]
  refine pick ok (by omega) (by show 0 < 6; decide) (by show 6 ≤ sizeLine; decide) _ fun bad s1 hbad ok1 => ?_
  simp [p_law_s9]
  rw [show (4 - (k : Int)) = ((4 - k : Nat) : Int) by omega, w_rep1 (small_le (by omega))]
  simp [e1]
  refine ⟨small_le (by omega), ?_⟩
  rw [w_newL_p (ds := dI x ++ List.replicate (4 - k) (D.int 0)) (by simp)]
  simp [e1]
  refine ⟨small_le (by omega), ?_⟩
  rw [w_newL_p (ds := (dI x).drop 1 ++ [.bl true]) (by simp)]
  simp [e1]
  refine ⟨small_le (by omega), ?_⟩
  rw [w_newL_p (ds := (dI x).drop 1 ++ [.non]) (by simp)]
  simp [e1]
  refine pick ok1 (by omega) (by simp) (by show 8 ≤ sizeLine; decide) _ fun wrong s2 hwrong ok2 => ?_
  simp [p_law_s8]
  refine ⟨small_le (by omega), ?_⟩
  rw [w_newL_p (ds := dI e ++ [D.int 0, D.int 0]) (by simp)]
  simp [e2]
  refine ⟨small_le (by omega), ?_⟩
  rw [w_newL_p (ds := (dI e).drop 1 ++ [.bl true]) (by simp)]
  simp [e2]
  refine ⟨small_le (by omega), ?_⟩
  rw [w_newL_p (ds := (dI e).drop 1 ++ [.str "1"]) (by simp)]
  simp [e2]
  refine pick ok2 (by omega) (by simp) (by show 7 ≤ sizeLine; decide) _ fun norows s3 hnorows ok3 => ?_
  simp [p_law_s7]
  rw [show (1 + (k : Int) % 3) = ((1 + k % 3 : Nat) : Int) by omega, w_rep1 (small_le (by omega))]
  simp
  have b := bad_ok hbad
  have w := wrong_ok hk hx hwrong
  have nr := norows_ok hk he hnorows
  have sz : kds (.lst (List.replicate (1 + k % 3) (D.int 0))) = true ∧ okR (.lst (List.replicate (1 + k % 3) (D.int 0))) k k = false ∧ sok 6 (.lst (List.replicate (1 + k % 3) (D.int 0))) = true := by
    rcases hk with rfl | rfl | rfl <;> exact ⟨by decide, by decide, by decide⟩
  refine segA (N := N + 3) hK ok3 (by omega) fun K' a14' ys s4 hK' ok4 hy => ?_
  exact loop hk he b.a b.b b.c w.a w.b w.c w.d nr.a nr.b nr.c sz.1 sz.2.1 sz.2.2 hy fun a15 a16 a17 => h K' s4 _ hK' ok4 rfl rfl
end
end K18
set_option Elab.async false
set_option linter.all false
set_option maxRecDepth 100000
set_option maxHeartbeats 4000000
set_option exponentiation.threshold 2000
namespace K18
open PySem PySem.Spec PyProof.Rows L2 RZ DL SH
noncomputable section
variable {E : DX → Wd → Prop} {QS : Fl × DL.Env → Wd → Prop} {δ : DL.Env} {K : Wd} {s : Strm} {N : Nat}
theorem shpL_all {n : Nat} : ∀ xs : List D, shpL n xs = xs.all (shp n)
  | [] => by rw [shpL]; rfl
  | x :: xs => by rw [shpL, shpL_all xs]; rfl
theorem once_late {n : Nat} {ds : List D} (hz : ds.length < 900) (h1 : ∀ d ∈ ds, shp 59 d = true) (h2 : ∀ d ∈ ds, deq d (.str "LATE") = false) (h3 : ∀ d ∈ ds, onceOk n d = true) (h4 : onceOk n (.str "LATE") = true) : onceOk (n + 1) (late ds) = true := by
  unfold late
  simp only [onceOk, Bool.and_eq_true, decide_eq_true_eq]
  refine ⟨⟨⟨?_, by rw [List.length_append]; simp only [List.length_singleton]; omega⟩, ?_⟩, ?_⟩
  · rw [shp, shpL_all, List.all_append, List.all_eq_true.mpr h1]
    decide +kernel
  · rw [List.countP_append, List.countP_eq_zero.mpr (fun d hd => by rw [h2 d hd]; decide)]
    decide +kernel
  · rw [List.all_append, List.all_eq_true.mpr h3]
    simp [h4]
theorem once_told {l : List Int} (hz : l.length < 900) : onceOk 6 (late [late (dI l)]) = true := by
  have o5 : onceOk 5 (late (dI l)) = true := once_late (by simpa using hz) (fun d hd => by obtain ⟨i, _, rfl⟩ := List.mem_map.mp hd; exact shp_int) (fun d hd => by obtain ⟨i, _, rfl⟩ := List.mem_map.mp hd; rfl) (fun d hd => by obtain ⟨i, _, rfl⟩ := List.mem_map.mp hd; rfl) rfl
  have s5 : shp 59 (late (dI l)) = true := by
    unfold late
    rw [shp, shpL_all, List.all_append, List.all_eq_true.mpr (fun d hd => by obtain ⟨i, _, rfl⟩ := List.mem_map.mp hd; exact shp_int)]
    decide +kernel
  exact once_late (by simp) (mem_one s5) (mem_one rfl) (mem_one o5) rfl
theorem back {W' : Wd} {K : Wd} {P0 : Nat} (hK : Tb P0 K) (h : ∀ i, i < 3 → W'[i]? = (s.W K)[i]?) : ∃ K', W' = s.W K' ∧ Tb P0 K' := by
  have h0 := h 0 (by decide)
  have h1 := h 1 (by decide)
  have h2 := h 2 (by decide)
  match W' with
  | [] => cases h0
  | [_] => cases h1
  | a :: b :: r =>
    refine ⟨r, ?_, ?_⟩
    · cases h0; cases h1; rfl
    · exact h2.trans hK
theorem Tb.lt {P0 : Nat} (hK : Tb P0 K) : 3 ≤ (s.W K).length := by
  have : 0 < K.length := (List.getElem?_eq_some_iff.mp hK).1
  simp
  omega
theorem lft_len {x : List Int} {k : Nat} (hx : x.length = k) : (lft x).length = (prs k).length := by
  unfold lft; rw [List.length_map, hx]
@[simp] theorem pureL_c {α : Type} {f : α → D} {l : List α} : pureL (l.map (RV.d ∘ f)) = some (l.map f) := by rw [← List.map_map]; exact pureL_map
theorem strm_setk {m : MO} {j : Nat} : (s.W K).set (j + 2) m = s.W (K.set j m) := by unfold Strm.W; rfl
theorem Tb.set {P0 j : Nat} {m : MO} (hK : Tb P0 K) (hj : 0 < j) : Tb P0 (K.set j m) := by
  unfold Tb at hK ⊢
  rw [List.getElem?_set_ne (by omega)]; exact hK
theorem Tb.pos {P0 : Nat} (hK : Tb P0 K) : 0 < K.length := (List.getElem?_eq_some_iff.mp hK).1
theorem sok_res {l x e : List Int} {v : Int} (h1 : l.length < 900) (h2 : x.length < 900) (h3 : e.length < 900) : sok 6 (.lst [lI l, .int v, lI x, lI e]) = true := by
  have q : ∀ l : List Int, l.length < 900 → sok 5 (lI l) = true := fun l h => sok_lst (by simpa using Nat.lt_trans h (by decide)) (fun _ => sok_dI)
  refine sok_lst (by simp) fun y hy => ?_
  simp only [List.mem_cons, List.not_mem_nil, or_false] at hy
  rcases hy with rfl | rfl | rfl | rfl
  · exact q l h1
  · rfl
  · exact q x h2
  · exact q e h3
theorem segC {n P0 : Nat} {a0 a3 a9 a10 a11 a12 a13 a14 a15 a16 a17 a18 : Option RV} {x e : List Int} {t t2 : Bool} {k : Nat} (hk : k = 1 ∨ k = 2 ∨ k = 3) (hx : x.length = k) (he : e.length = (prs k).length) (hs : sm 200 x) (hse : sm 200 e) (hK : Tb P0 K) (ok : s.ok N) (hN : N + 3000 < 2 ^ 40)
    (h : ∀ (K' : Wd) (s' : Strm) (δ' : DL.Env), Tb P0 K' → s'.ok (N + 8) → δ'.length = 19 → δ'[1]? = some (some (.r 1)) → QS (.nx, δ') (s'.W K')) :
    wpM (p_law_s13 n P0 [a0, some (.r 1), some (.d (.int (k : Nat))), a3, some (.d (lI x)), some (.d (lI (lft x))), some (.d (lI e)), some (.d (sq t (dI x))), some (.d (sq t2 (dI e))), a9, a10, a11, a12, a13, a14, a15, a16, a17, a18]) (s.W K) QS E := by
  have pl := prs_len hk
  have hz : e.length < 100 := by omega
  have hm : x.length = 1 ∨ x.length = 2 ∨ x.length = 3 := by omega
  have hl := lft_len hx
  have he' : e.length = (prs x.length).length := by rw [hx]; exact he
  simp [p_law_s13]
  refine lift hm hs ?_
  simp
  have hK1 : Tb P0 (K ++ [MO.fz (D.lst (List.map pT (prs x.length))), MO.fz (D.lst (List.map D.int (lft x)))]) := hK.app
  generalize K ++ [MO.fz (D.lst (List.map pT (prs x.length))), MO.fz (D.lst (List.map D.int (lft x)))] = K1 at hK1 ⊢
  refine value_at hm he' hs hse ?_
  simp
  refine bvalue hm hs hse (by omega) ?_
  simp
  refine same_refl 6 _ (sok_res (by omega) (by omega) (by omega)) _ _ _ ?_
  simp [p_law_s12]
  refine lift (t := false) hm hs ?_
  simp [p_law_s11]
  have hp := hK1.pos
  have g1 : (s.W (K1 ++ [MO.fz (D.lst (List.map pT (prs x.length))), MO.lst (List.map (RV.d ∘ D.int) (lft x)), MO.lst [RV.r (List.length K1 + 2 + 1)]]))[K1.length + 2 + 2]? = some (.lst [.r (K1.length + 2 + 1)]) := by
    show ((_ :: _ :: (K1 ++ [_, _, _])) : Wd)[K1.length + 2 + 2]? = _
    simp
  have g2 : (s.W (K1 ++ [MO.fz (D.lst (List.map pT (prs x.length))), MO.lst (List.map (RV.d ∘ D.int) (lft x)), MO.lst [RV.r (List.length K1 + 2 + 1)]]))[K1.length + 2 + 1]? = some (.lst ((dI (lft x)).map RV.d)) := by
    show ((_ :: _ :: (K1 ++ [_, _, _])) : Wd)[K1.length + 2 + 1]? = _
    simp
  refine apart1 g1 g2 (by omega) (by simp; omega) (List.all_eq_true.mpr fun d hd => by obtain ⟨i, _, rfl⟩ := List.mem_map.mp hd; rfl) (once_told (by omega)) fun W' hl' hW' => ?_
  obtain ⟨K2, rfl, hK2⟩ := back (s := s) (W' := W') (hK1.app (X := [MO.fz (D.lst (List.map pT (prs x.length))), MO.lst (List.map (RV.d ∘ D.int) (lft x)), MO.lst [RV.r (List.length K1 + 2 + 1)]])) (fun i hi => hW' i (by omega) (by omega))
  simp
  refine lift (t := true) hm hs ?_
  simp
  refine same_refl 6 _ (sok_lst (n := 5) (by simp; omega) (fun y hy => sok_dI hy)) _ _ _ ?_
  simp
  exact segB hk hx he (hK2.app) ok hN h
end
end K18
set_option Elab.async false
set_option linter.all false
set_option maxRecDepth 100000
set_option maxHeartbeats 4000000
set_option exponentiation.threshold 2000
namespace K18
open PySem PySem.Spec PyProof.Rows L2 RZ DL SH
noncomputable section
variable {E : DX → Wd → Prop} {QS : Fl × DL.Env → Wd → Prop} {K : Wd} {s : Strm} {N : Nat}
theorem env19 : ∀ {δ : DL.Env}, δ.length = 19 → δ[1]? = some (some (.r 1)) → ∃ a0 a2 a3 a4 a5 a6 a7 a8 a9 a10 a11 a12 a13 a14 a15 a16 a17 a18, δ = [a0, some (.r 1), a2, a3, a4, a5, a6, a7, a8, a9, a10, a11, a12, a13, a14, a15, a16, a17, a18]
  | [a0, a1, a2, a3, a4, a5, a6, a7, a8, a9, a10, a11, a12, a13, a14, a15, a16, a17, a18], _, h => by
    cases h
    exact ⟨a0, a2, a3, a4, a5, a6, a7, a8, a9, a10, a11, a12, a13, a14, a15, a16, a17, a18, rfl⟩
theorem turn {n P0 : Nat} {δ : DL.Env} (hδ : δ.length = 19) (h1 : δ[1]? = some (some (.r 1))) (hK : Tb P0 K) (ok : s.ok N) (hN : N + 5000 < 2 ^ 40)
    (h : ∀ (K' : Wd) (s' : Strm) (δ' : DL.Env), Tb P0 K' → s'.ok (N + 100) → δ'.length = 19 → δ'[1]? = some (some (.r 1)) → QS (.nx, δ') (s'.W K')) : wpM (p_law_b19 n P0 δ) (s.W K) QS E := by
  obtain ⟨a0, a2, a3, a4, a5, a6, a7, a8, a9, a10, a11, a12, a13, a14, a15, a16, a17, a18, rfl⟩ := env19 hδ h1
  simp [p_law_b19]
  refine below ok (by omega) (by decide) (by decide) _ fun i s1 hi0 hi1 ok1 => ?_
  obtain ⟨k, hk, e⟩ : ∃ k : Nat, (k = 1 ∨ k = 2 ∨ k = 3) ∧ 1 + i = (k : Int) := ⟨(1 + i).toNat, by omega, by omega⟩
  simp
  rw [e]
  simp [p_law_s18]
  refine ⟨by omega, ?_⟩
  have rl : (DL.intsFrom 0 k).length = k := intsFrom_len
  refine lc_drawI (c := 4) (fun i => i.natAbs < 2 ^ 200) ok1 (by omega) (fun d hd s' M ok' hM => ?_) fun x s2 hx hs ok2 => ?_
  · simp [wipeD]
    exact draw_x rfl ok' (by omega) fun i s2 hi ok2 => ⟨i, rfl, hi, s2, rfl, ok2⟩
  rw [rl] at hx ok2
  have hm : x.length = 1 ∨ x.length = 2 ∨ x.length = 3 := by omega
  have pl := prs_len hk
  simp [p_law_s16]
  refine blift hm hs ?_
  simp
  refine bpairs hk ?_
  simp
  refine lc_drawI (c := 2) (fun i => i.natAbs < 1000) ok2 (by simp; omega) (fun d hd s' M ok' hM => ?_) fun eq s3 he hse ok3 => ?_
  · simp [wipeD, p_law_e15]
    rw [List.length_map] at hM
    exact bnumber ok' (by omega) fun i s2 hi ok2 => ⟨i, rfl, hi, s2, rfl, ok2⟩
  rw [List.length_map] at he ok3
  simp [p_law_s14]
  refine loose (n := 3) ok3 (by omega) (by omega) fun t s4 ok4 => ?_
  simp
  refine loose (n := 3) ok4 (by omega) (by omega) fun t2 s5 ok5 => ?_
  simp
  exact segC hk hx he hs (fun i hi => Nat.lt_trans (hse i hi) (by decide)) hK ok5 (by omega) fun K' s' δ' g1 g2 g3 g4 => h K' s' δ' g1 (g2.mono (by omega)) g3 g4
end
end K18
set_option Elab.async false
set_option linter.all false
set_option maxRecDepth 100000
set_option maxHeartbeats 4000000
set_option exponentiation.threshold 2000
namespace K18
open PySem PySem.Spec PyProof.Rows L2 RZ DL SH
noncomputable section
variable {E : DX → Wd → Prop} {QS : Fl × DL.Env → Wd → Prop} {K : Wd} {s : Strm} {N : Nat}
theorem prs_same {m : Nat} (hm : m = 1 ∨ m = 2 ∨ m = 3) : sok 6 (.lst ((prs m).map pT)) = true := by rcases hm with rfl | rfl | rfl <;> decide +kernel
theorem prs_noEff {m : Nat} (hm : m = 1 ∨ m = 2 ∨ m = 3) : ((prs m).map pT).all (noEff 4) = true := by rcases hm with rfl | rfl | rfl <;> decide +kernel
theorem prs_once {m : Nat} (hm : m = 1 ∨ m = 2 ∨ m = 3) : onceOk 6 (late [late ((prs m).map pT), late ((prs m).map pT)]) = true := by rcases hm with rfl | rfl | rfl <;> decide +kernel
theorem first {n P0 m : Nat} {a0 a3 a4 a5 a6 a7 a8 a9 a10 a11 a12 a13 a14 a15 a16 a17 a18 : Option RV} (hm : m = 1 ∨ m = 2 ∨ m = 3) (hK : Tb P0 K)
    (h : ∀ (K' : Wd), Tb P0 K' → QS (.nx, [a0, some (.r 1), some (.d (.int (m : Nat))), a3, a4, a5, a6, a7, a8, a9, a10, a11, a12, a13, a14, a15, a16, a17, a18]) (s.W K')) :
    wpM (p_law_b20 n P0 [a0, some (.r 1), some (.d (.int (m : Nat))), a3, a4, a5, a6, a7, a8, a9, a10, a11, a12, a13, a14, a15, a16, a17, a18]) (s.W K) QS E := by
  have pl := prs_len hm
  simp [p_law_b20]
  refine monomials hm ?_
  simp
  refine bpairs hm ?_
  simp
  refine same_refl 6 _ (prs_same hm) _ _ _ ?_
  simp
  have hK1 : Tb P0 (K ++ [MO.fz (D.lst (List.map pT (prs m)))]) := hK.app
  generalize K ++ [MO.fz (D.lst (List.map pT (prs m)))] = K1 at hK1 ⊢
  refine monomials hm ?_
  simp
  refine monomials hm ?_
  simp
  have hp := hK1.pos
  have g0 : (s.W (K1 ++ [MO.lst (List.map (RV.d ∘ pT) (prs m)), MO.lst (List.map (RV.d ∘ pT) (prs m)), MO.lst [RV.r (List.length K1 + 2), RV.r (List.length K1 + 1 + 2)]]))[K1.length + 2 + 2]? = some (.lst [.r (K1.length + 2), .r (K1.length + 1 + 2)]) := by
    show ((_ :: _ :: (K1 ++ [_, _, _])) : Wd)[K1.length + 2 + 2]? = _
    simp
  have g1 : (s.W (K1 ++ [MO.lst (List.map (RV.d ∘ pT) (prs m)), MO.lst (List.map (RV.d ∘ pT) (prs m)), MO.lst [RV.r (List.length K1 + 2), RV.r (List.length K1 + 1 + 2)]]))[K1.length + 2]? = some (.lst (((prs m).map pT).map RV.d)) := by
    show ((_ :: _ :: (K1 ++ [_, _, _])) : Wd)[K1.length + 2]? = _
    simp
  have g2 : (s.W (K1 ++ [MO.lst (List.map (RV.d ∘ pT) (prs m)), MO.lst (List.map (RV.d ∘ pT) (prs m)), MO.lst [RV.r (List.length K1 + 2), RV.r (List.length K1 + 1 + 2)]]))[K1.length + 1 + 2]? = some (.lst (((prs m).map pT).map RV.d)) := by
    show ((_ :: _ :: (K1 ++ [_, _, _])) : Wd)[K1.length + 1 + 2]? = _
    simp
  refine apart2 g0 g1 g2 (by omega) (by omega) (by omega) (by simp; omega) (by simp; omega) (prs_noEff hm) (prs_noEff hm) (prs_once hm) fun W' hl' hW' => ?_
  obtain ⟨K2, rfl, hK2⟩ := back (s := s) (W' := W') (hK1.app (X := [MO.lst (List.map (RV.d ∘ pT) (prs m)), MO.lst (List.map (RV.d ∘ pT) (prs m)), MO.lst [RV.r (List.length K1 + 2), RV.r (List.length K1 + 1 + 2)]])) (fun i hi => hW' i (by omega) (by omega) (by omega))
  simp
  exact h K2 hK2
def Pv (P0 c : Nat) (i : Nat) (δ : DL.Env) (W : Wd) : Prop := δ.length = 19 ∧ δ[1]? = some (some (.r 1)) ∧ ∃ K s, W = Strm.W s K ∧ Tb P0 K ∧ s.ok (c * i)
theorem math (n P0 : Nat) (ns : List Int) (hl : ns.length ≤ 63) : wpM (m_law n P0 (lawEnv 19)) (startT ns P0 (("law" : Str) ++ ".<locals>." ++ "<lambda>")) (fun p _ => p.1 = .rt (.d (.bl true))) (fun _ _ => False) := by
  generalize hQ : (fun (p : Fl × DL.Env) (_ : Wd) => p.1 = .rt (.d (.bl true))) = QF
  have e0 : startT ns P0 (("law" : Str) ++ ".<locals>." ++ "<lambda>") = (Strm.mk ns 0 0 43).W [.tbl P0 qn] := rfl
  have ok0 : (Strm.mk ns 0 0 43).ok 0 := ⟨hl, Int.le_refl _, Int.le_refl _, Int.le_refl _, show (0 : Int) ≤ 43 by decide, show (43 : Int) < 2147483647 by decide⟩
  rw [e0]
  unfold m_law
  generalize hB : p_law_b19 n P0 = B
  generalize hA : p_law_b20 n P0 = A
  simp
  refine wpM_mono (goFor_inv (Pv P0 0) [.int 1, .int 2, .int 3] (fun i d δ W hd hP => ?_) [.int 1, .int 2, .int 3] 0 (lawEnv 19) _ rfl (Nat.zero_le _) ⟨rfl, rfl, _, _, rfl, rfl, ok0⟩) (fun p W' hp => ?_) fun _ _ z => z
  · obtain ⟨h1, h2, K, s, rfl, hK, ok⟩ := hP
    obtain ⟨a0, a2, a3, a4, a5, a6, a7, a8, a9, a10, a11, a12, a13, a14, a15, a16, a17, a18, rfl⟩ := env19 h1 h2
    obtain ⟨m, hm, rfl⟩ : ∃ m : Nat, (m = 1 ∨ m = 2 ∨ m = 3) ∧ d = .int (m : Nat) := by
      have := List.mem_of_getElem? hd
      simp only [List.mem_cons, List.not_mem_nil, or_false] at this
      rcases this with rfl | rfl | rfl
      · exact ⟨1, .inl rfl, rfl⟩
      · exact ⟨2, .inr (.inl rfl), rfl⟩
      · exact ⟨3, .inr (.inr rfl), rfl⟩
    rw [w_gtName, kB_ap]
    subst hA
    refine first hm hK fun K' hK' => ⟨.inl rfl, rfl, rfl, K', s, rfl, hK', ?_⟩
    rw [Nat.zero_mul] at ok ⊢
    exact ok
  · obtain ⟨f, δ⟩ := p
    obtain ⟨hf, h1, h2, K, s, rfl, hK, ok⟩ := hp
    dsimp only at hf h1 h2
    subst hf
    rw [Nat.zero_mul] at ok
    simp
    rw [show ∀ (QD : List D → Wd → Prop) (W : Wd) (E : DX → Wd → Prop), wpM (rng1 [.d (.int 10)]) W QD E = ((10 : Nat) < 2 ^ 62 ∧ QD (DL.intsFrom 0 10) W) from fun QD W E => w_rng1n (k := 10)]
    refine ⟨by decide, ?_⟩
    simp only [kB_ap, w_forF]
    have hlen : (DL.intsFrom 0 10).length = 10 := rfl
    refine wpM_mono (goFor_inv (Pv P0 100) (DL.intsFrom 0 10) (fun i d δ W hd hP => ?_) (DL.intsFrom 0 10) 0 δ _ rfl (Nat.zero_le _) ⟨h1, h2, _, _, rfl, hK, ok⟩) (fun p W' hp => ?_) fun _ _ z => z
    · obtain ⟨h1, h2, K, s, rfl, hK, ok⟩ := hP
      have hi : i < 10 := by rw [← hlen]; exact (List.getElem?_eq_some_iff.mp hd).1
      rw [w_gtName, kB_ap]
      subst hB
      refine turn (N := 100 * i) (by rw [List.length_set]; exact h1) (by rw [List.getElem?_set_ne (by decide)]; exact h2) hK ok (by omega) fun K' s' δ' g1 g2 g3 g4 => ⟨.inl rfl, g3, g4, K', s', rfl, g1, ?_⟩
      rw [Nat.mul_succ]
      exact g2
    · obtain ⟨f, δ'⟩ := p
      obtain ⟨hf, _⟩ := hp
      dsimp only at hf
      subst hf
      simp
      subst hQ
      rfl
end
end K18
set_option Elab.async false
set_option linter.all false
set_option maxRecDepth 100000
set_option maxHeartbeats 1000000
/-! ZH: lemmas for the ends of laws that raise. -/
namespace DL
open PySem PySem.Spec PyProof.Rows L2 L2H HotX
theorem nam_is {K : PySem.W.Frag} {mg : Str → Option Value} {C : Addr} {x : Str} (ps : List (Str × Addr)) (hn : ∀ p ∈ ps, mg p.1 = some (.ref p.2)) (hk : (ps.all fun p => PySem.W.kitOne K (.ref C) (.ref p.2) == some (x == p.1)) = true) :
    ∀ y ∈ ps.map (·.1), ∃ C' : Addr, mg y = some (.ref C') ∧ PySem.W.kitOne K (.ref C) (.ref C') = some (x == y) := by
  intro y hy
  obtain ⟨p, hp, rfl⟩ := List.mem_map.mp hy
  exact ⟨p.2, hn p hp, eq_of_beq (List.all_eq_true.mp hk p hp)⟩
/-- the class of an address in the list of raised classes -/
def cvOf (ps : List (Str × Addr)) (y : Str) : Value := match ps.lookup y with
  | some a => .ref a
  | none => .none
theorem lawAtS {l : PySem.W.OpenLaw} {w : World} {K : PySem.W.Frag} {CX : CXT} {k : Nat} {mg : Str → Option Value} {fa cc P0 : Addr} {h : Heap} {fd : FuncData} {oc : Value} {od : Option Addr} {osl : Array (Option Value)} {ec : Value} {dc : Option Addr} {vsc : Array Value} {slc : Array (Option Value)} (X : K.In h) (own : LamX.OwnTab K fa h)
    (lk : K.lookup fa = some ⟨oc, od, .func fd, osl⟩) (hcd : fd.code = .ref cc) (pc : K.lookup cc = some ⟨ec, dc, .fields vsc, slc⟩) (pv : vsc[11]? = some (.ref P0)) (pn : K.lookup P0 = none) (ph : PySem.W.codeHdIn K cc P0 = true)
    (hb : ∀ (s : Shared) (u : Value), BindsTo s fd ⟨[u], []⟩ [("script", u)]) (F : ∀ base : Heap, LamX.TabB base mg cc P0 → FnOk l.prog w K mg base CX k fa fd ["script"] (spLawT K P0)) : LamX.LawAtS l w K CX k 63 "script" mg fa h := by
  refine ⟨fd, [(cc, P0)], spLawT K P0, fun p hp => ?_, fun p hp => ?_, fun p hp => ?_, hb, fun H a ns hl _ hH hS => ⟨a, ns, rfl, hS, hl, hH (cc, P0) (List.mem_singleton_self _), fun _ => rfl⟩, fun base _ _ hT => F base (hT (cc, P0) (List.mem_singleton_self _))⟩
  · rw [List.mem_singleton.mp hp]
    exact own cc P0 _ fd _ _ _ _ lk rfl hcd pc pv
  · rw [List.mem_singleton.mp hp]; exact pn
  · rw [List.mem_singleton.mp hp]; exact PySem.W.codeHd_of_K X ph
end DL
set_option Elab.async false
set_option linter.all false
set_option maxRecDepth 100000
set_option maxHeartbeats 4000000
namespace K18
open PySem PySem.Spec PyProof.Rows L2 RZ DL
theorem all_mk {l : PySem.W.OpenLaw} {w : World} {K : PySem.W.Frag} {h : Heap} {mg : Str → Option Value} {fa : Addr} (X : K.In h) (G : h.Ns mainGlobals mg) (hfa : mg "law" = some (.ref fa)) (own : LamX.OwnTab K fa h)
    {oc0 kV0 dc0 pm0 cd0 ct0 : Value} {od0 an0 : Option Addr} {sl0 : Array (Option Value)} {f0 : Addr}
    (a0 : PySem.W.nsIn K mainGlobals "_law_is_once" = some (some (.ref f0)))
    (l0 : K.lookup f0 = some ⟨oc0, od0, .func (PySem.W.fnOf "_law_is_once" "_law_is_once" (defArgs s__law_is_once) (defBody s__law_is_once) (defScope s__law_is_once) .none kV0 dc0 pm0 an0 cd0 ct0), sl0⟩)
    (c0 : PySem.W.codeIn K cd0 "_law_is_once" = true)
    (k0 : PySem.W.keepIn K (.ref f0) = true)
    {oc1 kV1 dc1 pm1 cd1 ct1 : Value} {od1 an1 : Option Addr} {sl1 : Array (Option Value)} {f1 : Addr}
    (a1 : PySem.W.nsIn K mainGlobals "_law_spoilt" = some (some (.ref f1)))
    (l1 : K.lookup f1 = some ⟨oc1, od1, .func (PySem.W.fnOf "_law_spoilt" "_law_spoilt" (defArgs s__law_spoilt) (defBody s__law_spoilt) (defScope s__law_spoilt) .none kV1 dc1 pm1 an1 cd1 ct1), sl1⟩)
    (c1 : PySem.W.codeIn K cd1 "_law_spoilt" = true)
    (k1 : PySem.W.keepIn K (.ref f1) = true)
    {oc2 kV2 dc2 pm2 cd2 ct2 : Value} {od2 an2 : Option Addr} {sl2 : Array (Option Value)} {f2 : Addr}
    (a2 : PySem.W.nsIn K mainGlobals "_law_apart" = some (some (.ref f2)))
    (l2 : K.lookup f2 = some ⟨oc2, od2, .func (PySem.W.fnOf "_law_apart" "_law_apart" (defArgs s__law_apart) (defBody s__law_apart) (defScope s__law_apart) .none kV2 dc2 pm2 an2 cd2 ct2), sl2⟩)
    (c2 : PySem.W.codeIn K cd2 "_law_apart" = true)
    (k2 : PySem.W.keepIn K (.ref f2) = true)
    {oc3 kV3 dc3 pm3 cd3 ct3 : Value} {od3 an3 : Option Addr} {sl3 : Array (Option Value)} {f3 : Addr}
    (a3 : PySem.W.nsIn K mainGlobals "_law_below" = some (some (.ref f3)))
    (l3 : K.lookup f3 = some ⟨oc3, od3, .func (PySem.W.fnOf "_law_below" "_law_below" (defArgs s__law_below) (defBody s__law_below) (defScope s__law_below) .none kV3 dc3 pm3 an3 cd3 ct3), sl3⟩)
    (c3 : PySem.W.codeIn K cd3 "_law_below" = true)
    (k3 : PySem.W.keepIn K (.ref f3) = true)
    {oc4 kV4 dc4 pm4 cd4 ct4 : Value} {od4 an4 : Option Addr} {sl4 : Array (Option Value)} {f4 : Addr}
    (a4 : PySem.W.nsIn K mainGlobals "_law_bpairs" = some (some (.ref f4)))
    (l4 : K.lookup f4 = some ⟨oc4, od4, .func (PySem.W.fnOf "_law_bpairs" "_law_bpairs" (defArgs s__law_bpairs) (defBody s__law_bpairs) (defScope s__law_bpairs) .none kV4 dc4 pm4 an4 cd4 ct4), sl4⟩)
    (c4 : PySem.W.codeIn K cd4 "_law_bpairs" = true)
    (k4 : PySem.W.keepIn K (.ref f4) = true)
    {oc5 kV5 dc5 pm5 cd5 ct5 : Value} {od5 an5 : Option Addr} {sl5 : Array (Option Value)} {f5 : Addr}
    (a5 : PySem.W.nsIn K mainGlobals "_law_blift" = some (some (.ref f5)))
    (l5 : K.lookup f5 = some ⟨oc5, od5, .func (PySem.W.fnOf "_law_blift" "_law_blift" (defArgs s__law_blift) (defBody s__law_blift) (defScope s__law_blift) .none kV5 dc5 pm5 an5 cd5 ct5), sl5⟩)
    (c5 : PySem.W.codeIn K cd5 "_law_blift" = true)
    (k5 : PySem.W.keepIn K (.ref f5) = true)
    {oc6 kV6 dc6 pm6 cd6 ct6 : Value} {od6 an6 : Option Addr} {sl6 : Array (Option Value)} {f6 : Addr}
    (a6 : PySem.W.nsIn K mainGlobals "_law_chance" = some (some (.ref f6)))
    (l6 : K.lookup f6 = some ⟨oc6, od6, .func (PySem.W.fnOf "_law_chance" "_law_chance" (defArgs s__law_chance) (defBody s__law_chance) (defScope s__law_chance) .none kV6 dc6 pm6 an6 cd6 ct6), sl6⟩)
    (c6 : PySem.W.codeIn K cd6 "_law_chance" = true)
    (k6 : PySem.W.keepIn K (.ref f6) = true)
    {oc7 kV7 dc7 pm7 cd7 ct7 : Value} {od7 an7 : Option Addr} {sl7 : Array (Option Value)} {f7 : Addr}
    (a7 : PySem.W.nsIn K mainGlobals "_law_bnumber" = some (some (.ref f7)))
    (l7 : K.lookup f7 = some ⟨oc7, od7, .func (PySem.W.fnOf "_law_bnumber" "_law_bnumber" (defArgs s__law_bnumber) (defBody s__law_bnumber) (defScope s__law_bnumber) .none kV7 dc7 pm7 an7 cd7 ct7), sl7⟩)
    (c7 : PySem.W.codeIn K cd7 "_law_bnumber" = true)
    (k7 : PySem.W.keepIn K (.ref f7) = true)
    {oc8 kV8 dc8 pm8 cd8 ct8 : Value} {od8 an8 : Option Addr} {sl8 : Array (Option Value)} {f8 : Addr}
    (a8 : PySem.W.nsIn K mainGlobals "_law_bnamed" = some (some (.ref f8)))
    (l8 : K.lookup f8 = some ⟨oc8, od8, .func (PySem.W.fnOf "_law_bnamed" "_law_bnamed" (defArgs s__law_bnamed) (defBody s__law_bnamed) (defScope s__law_bnamed) .none kV8 dc8 pm8 an8 cd8 ct8), sl8⟩)
    (c8 : PySem.W.codeIn K cd8 "_law_bnamed" = true)
    (k8 : PySem.W.keepIn K (.ref f8) = true)
    {oc9 kV9 dc9 pm9 cd9 ct9 : Value} {od9 an9 : Option Addr} {sl9 : Array (Option Value)} {f9 : Addr}
    (a9 : PySem.W.nsIn K mainGlobals "_law_braised" = some (some (.ref f9)))
    (l9 : K.lookup f9 = some ⟨oc9, od9, .func (PySem.W.fnOf "_law_braised" "_law_braised" (defArgs s__law_braised) (defBody s__law_braised) (defScope s__law_braised) .none kV9 dc9 pm9 an9 cd9 ct9), sl9⟩)
    (c9 : PySem.W.codeIn K cd9 "_law_braised" = true)
    (k9 : PySem.W.keepIn K (.ref f9) = true)
    {oc10 kV10 dc10 pm10 cd10 ct10 : Value} {od10 an10 : Option Addr} {sl10 : Array (Option Value)} {f10 : Addr}
    (a10 : PySem.W.nsIn K mainGlobals "_law_same" = some (some (.ref f10)))
    (l10 : K.lookup f10 = some ⟨oc10, od10, .func (PySem.W.fnOf "_law_same" "_law_same" (defArgs s__law_same) (defBody s__law_same) (defScope s__law_same) .none kV10 dc10 pm10 an10 cd10 ct10), sl10⟩)
    (c10 : PySem.W.codeIn K cd10 "_law_same" = true)
    (k10 : PySem.W.keepIn K (.ref f10) = true)
    {oc11 kV11 dc11 pm11 cd11 ct11 : Value} {od11 an11 : Option Addr} {sl11 : Array (Option Value)} {f11 : Addr}
    (a11 : PySem.W.nsIn K mainGlobals "_law_brefuses" = some (some (.ref f11)))
    (l11 : K.lookup f11 = some ⟨oc11, od11, .func (PySem.W.fnOf "_law_brefuses" "_law_brefuses" (defArgs s__law_brefuses) (defBody s__law_brefuses) (defScope s__law_brefuses) .none kV11 dc11 pm11 an11 cd11 ct11), sl11⟩)
    (c11 : PySem.W.codeIn K cd11 "_law_brefuses" = true)
    (k11 : PySem.W.keepIn K (.ref f11) = true)
    {oc12 kV12 dc12 pm12 cd12 ct12 : Value} {od12 an12 : Option Addr} {sl12 : Array (Option Value)} {f12 : Addr}
    (a12 : PySem.W.nsIn K mainGlobals "_law_bvalue" = some (some (.ref f12)))
    (l12 : K.lookup f12 = some ⟨oc12, od12, .func (PySem.W.fnOf "_law_bvalue" "_law_bvalue" (defArgs s__law_bvalue) (defBody s__law_bvalue) (defScope s__law_bvalue) .none kV12 dc12 pm12 an12 cd12 ct12), sl12⟩)
    (c12 : PySem.W.codeIn K cd12 "_law_bvalue" = true)
    (k12 : PySem.W.keepIn K (.ref f12) = true)
    {oc13 kV13 dc13 pm13 cd13 ct13 : Value} {od13 an13 : Option Addr} {sl13 : Array (Option Value)} {f13 : Addr}
    (a13 : PySem.W.nsIn K mainGlobals "_law_mixed" = some (some (.ref f13)))
    (l13 : K.lookup f13 = some ⟨oc13, od13, .func (PySem.W.fnOf "_law_mixed" "_law_mixed" (defArgs s__law_mixed) (defBody s__law_mixed) (defScope s__law_mixed) .none kV13 dc13 pm13 an13 cd13 ct13), sl13⟩)
    (c13 : PySem.W.codeIn K cd13 "_law_mixed" = true)
    (k13 : PySem.W.keepIn K (.ref f13) = true)
    {oc14 kV14 dc14 pm14 cd14 ct14 : Value} {od14 an14 : Option Addr} {sl14 : Array (Option Value)} {f14 : Addr}
    (a14 : PySem.W.nsIn K mainGlobals "_law_loose" = some (some (.ref f14)))
    (l14 : K.lookup f14 = some ⟨oc14, od14, .func (PySem.W.fnOf "_law_loose" "_law_loose" (defArgs s__law_loose) (defBody s__law_loose) (defScope s__law_loose) .none kV14 dc14 pm14 an14 cd14 ct14), sl14⟩)
    (c14 : PySem.W.codeIn K cd14 "_law_loose" = true)
    (k14 : PySem.W.keepIn K (.ref f14) = true)
    {oc15 kV15 dc15 pm15 cd15 ct15 : Value} {od15 an15 : Option Addr} {sl15 : Array (Option Value)} {f15 : Addr}
    (a15 : PySem.W.nsIn K mainGlobals "_law_pick" = some (some (.ref f15)))
    (l15 : K.lookup f15 = some ⟨oc15, od15, .func (PySem.W.fnOf "_law_pick" "_law_pick" (defArgs s__law_pick) (defBody s__law_pick) (defScope s__law_pick) .none kV15 dc15 pm15 an15 cd15 ct15), sl15⟩)
    (c15 : PySem.W.codeIn K cd15 "_law_pick" = true)
    (k15 : PySem.W.keepIn K (.ref f15) = true)
    {oc16 kV16 dc16 pm16 cd16 ct16 : Value} {od16 an16 : Option Addr} {sl16 : Array (Option Value)} {f16 : Addr}
    (a16 : PySem.W.nsIn K mainGlobals "_law_start" = some (some (.ref f16)))
    (l16 : K.lookup f16 = some ⟨oc16, od16, .func (PySem.W.fnOf "_law_start" "_law_start" (defArgs s__law_start) (defBody s__law_start) (defScope s__law_start) .none kV16 dc16 pm16 an16 cd16 ct16), sl16⟩)
    (c16 : PySem.W.codeIn K cd16 "_law_start" = true)
    (k16 : PySem.W.keepIn K (.ref f16) = true)
    {oc17 kV17 dc17 pm17 cd17 ct17 : Value} {od17 an17 : Option Addr} {sl17 : Array (Option Value)} {f17 : Addr}
    (a17 : PySem.W.nsIn K mainGlobals "pairs_of" = some (some (.ref f17)))
    (l17 : K.lookup f17 = some ⟨oc17, od17, .func (PySem.W.fnOf "pairs_of" "pairs_of" (defArgs s_pairs_of) (defBody s_pairs_of) (defScope s_pairs_of) .none kV17 dc17 pm17 an17 cd17 ct17), sl17⟩)
    (c17 : PySem.W.codeIn K cd17 "pairs_of" = true)
    (k17 : PySem.W.keepIn K (.ref f17) = true)
    {oc18 kV18 dc18 pm18 cd18 ct18 : Value} {od18 an18 : Option Addr} {sl18 : Array (Option Value)} {f18 : Addr}
    (a18 : PySem.W.nsIn K mainGlobals "lift_of" = some (some (.ref f18)))
    (l18 : K.lookup f18 = some ⟨oc18, od18, .func (PySem.W.fnOf "lift_of" "lift_of" (defArgs s_lift_of) (defBody s_lift_of) (defScope s_lift_of) .none kV18 dc18 pm18 an18 cd18 ct18), sl18⟩)
    (c18 : PySem.W.codeIn K cd18 "lift_of" = true)
    (k18 : PySem.W.keepIn K (.ref f18) = true)
    {oc19 kV19 dc19 pm19 cd19 ct19 : Value} {od19 an19 : Option Addr} {sl19 : Array (Option Value)} {f19 : Addr}
    (a19 : PySem.W.nsIn K mainGlobals "is_integer" = some (some (.ref f19)))
    (l19 : K.lookup f19 = some ⟨oc19, od19, .func (PySem.W.fnOf "is_integer" "is_integer" (defArgs s_is_integer) (defBody s_is_integer) (defScope s_is_integer) .none kV19 dc19 pm19 an19 cd19 ct19), sl19⟩)
    (c19 : PySem.W.codeIn K cd19 "is_integer" = true)
    (k19 : PySem.W.keepIn K (.ref f19) = true)
    {oc20 kV20 dc20 pm20 cd20 ct20 : Value} {od20 an20 : Option Addr} {sl20 : Array (Option Value)} {f20 : Addr}
    (a20 : PySem.W.nsIn K mainGlobals "is_row" = some (some (.ref f20)))
    (l20 : K.lookup f20 = some ⟨oc20, od20, .func (PySem.W.fnOf "is_row" "is_row" (defArgs s_is_row) (defBody s_is_row) (defScope s_is_row) .none kV20 dc20 pm20 an20 cd20 ct20), sl20⟩)
    (c20 : PySem.W.codeIn K cd20 "is_row" = true)
    (k20 : PySem.W.keepIn K (.ref f20) = true)
    {oc21 kV21 dc21 pm21 cd21 ct21 : Value} {od21 an21 : Option Addr} {sl21 : Array (Option Value)} {f21 : Addr}
    (a21 : PySem.W.nsIn K mainGlobals "need_registers" = some (some (.ref f21)))
    (l21 : K.lookup f21 = some ⟨oc21, od21, .func (PySem.W.fnOf "need_registers" "need_registers" (defArgs s_need_registers) (defBody s_need_registers) (defScope s_need_registers) .none kV21 dc21 pm21 an21 cd21 ct21), sl21⟩)
    (c21 : PySem.W.codeIn K cd21 "need_registers" = true)
    (k21 : PySem.W.keepIn K (.ref f21) = true)
    {oc22 kV22 dc22 pm22 cd22 ct22 : Value} {od22 an22 : Option Addr} {sl22 : Array (Option Value)} {f22 : Addr}
    (a22 : PySem.W.nsIn K mainGlobals "lift" = some (some (.ref f22)))
    (l22 : K.lookup f22 = some ⟨oc22, od22, .func (PySem.W.fnOf "lift" "lift" (defArgs s_lift) (defBody s_lift) (defScope s_lift) .none kV22 dc22 pm22 an22 cd22 ct22), sl22⟩)
    (c22 : PySem.W.codeIn K cd22 "lift" = true)
    (k22 : PySem.W.keepIn K (.ref f22) = true)
    {oc23 kV23 dc23 pm23 cd23 ct23 : Value} {od23 an23 : Option Addr} {sl23 : Array (Option Value)} {f23 : Addr}
    (a23 : PySem.W.nsIn K mainGlobals "monomials" = some (some (.ref f23)))
    (l23 : K.lookup f23 = some ⟨oc23, od23, .func (PySem.W.fnOf "monomials" "monomials" (defArgs s_monomials) (defBody s_monomials) (defScope s_monomials) .none kV23 dc23 pm23 an23 cd23 ct23), sl23⟩)
    (c23 : PySem.W.codeIn K cd23 "monomials" = true)
    (k23 : PySem.W.keepIn K (.ref f23) = true)
    {oc24 kV24 dc24 pm24 cd24 ct24 : Value} {od24 an24 : Option Addr} {sl24 : Array (Option Value)} {f24 : Addr}
    (a24 : PySem.W.nsIn K mainGlobals "value_at" = some (some (.ref f24)))
    (l24 : K.lookup f24 = some ⟨oc24, od24, .func (PySem.W.fnOf "value_at" "value_at" (defArgs s_value_at) (defBody s_value_at) (defScope s_value_at) .none kV24 dc24 pm24 an24 cd24 ct24), sl24⟩)
    (c24 : PySem.W.codeIn K cd24 "value_at" = true)
    (k24 : PySem.W.keepIn K (.ref f24) = true)
    {oc25 kV25 dc25 pm25 ct25 : Value} {od25 an25 : Option Addr} {sl25 : Array (Option Value)} {f25 : Addr}
    {cc P0 : Addr} {ecc : Value} {dcc : Option Addr} {vcc : Array Value} {slc : Array (Option Value)}
    (a25 : PySem.W.nsIn K mainGlobals "law" = some (some (.ref f25)))
    (l25 : K.lookup f25 = some ⟨oc25, od25, .func (PySem.W.fnOf "law" "law" (defArgs s_law) (defBody s_law) (defScope s_law) .none kV25 dc25 pm25 an25 (.ref cc) ct25), sl25⟩)
    (c25 : PySem.W.codeIn K (.ref cc) "law" = true)
    (k25 : PySem.W.keepIn K (.ref f25) = true)
    (pc : K.lookup cc = some ⟨ecc, dcc, .fields vcc, slc⟩)
    (pv : vcc[11]? = some (.ref P0))
    (pn : K.lookup P0 = none)
    (ph : PySem.W.codeHdIn K cc P0 = true)
    (z_all : PySem.W.nsIn K mainGlobals "all" = some none)
    (z_bool : PySem.W.nsIn K mainGlobals "bool" = some none)
    (z_dict : PySem.W.nsIn K mainGlobals "dict" = some none)
    (z_int : PySem.W.nsIn K mainGlobals "int" = some none)
    (z_isinstance : PySem.W.nsIn K mainGlobals "isinstance" = some none)
    (z_len : PySem.W.nsIn K mainGlobals "len" = some none)
    (z_list : PySem.W.nsIn K mainGlobals "list" = some none)
    (z_range : PySem.W.nsIn K mainGlobals "range" = some none)
    (z_str : PySem.W.nsIn K mainGlobals "str" = some none)
    (z_sum : PySem.W.nsIn K mainGlobals "sum" = some none)
    (z_tuple : PySem.W.nsIn K mainGlobals "tuple" = some none)
    (z_zip : PySem.W.nsIn K mainGlobals "zip" = some none)
    {C_BadCore : Addr}
    (nc_BadCore : PySem.W.nsIn K mainGlobals "BadCore" = some (some (.ref C_BadCore)))
    {C_BadInput : Addr}
    (nc_BadInput : PySem.W.nsIn K mainGlobals "BadInput" = some (some (.ref C_BadInput)))
    {C_BadSigns : Addr}
    (nc_BadSigns : PySem.W.nsIn K mainGlobals "BadSigns" = some (some (.ref C_BadSigns)))
    {C_BadMany : Addr}
    (nc_BadMany : PySem.W.nsIn K mainGlobals "BadMany" = some (some (.ref C_BadMany)))
    {C_BadLevels : Addr}
    (nc_BadLevels : PySem.W.nsIn K mainGlobals "BadLevels" = some (some (.ref C_BadLevels)))
    {C_BadSteps : Addr}
    (nc_BadSteps : PySem.W.nsIn K mainGlobals "BadSteps" = some (some (.ref C_BadSteps)))
    {C_BadOpens : Addr}
    (nc_BadOpens : PySem.W.nsIn K mainGlobals "BadOpens" = some (some (.ref C_BadOpens)))
    {C_BadCloses : Addr}
    (nc_BadCloses : PySem.W.nsIn K mainGlobals "BadCloses" = some (some (.ref C_BadCloses)))
    {C_BadEnds : Addr}
    (nc_BadEnds : PySem.W.nsIn K mainGlobals "BadEnds" = some (some (.ref C_BadEnds)))
    {C_BadLength : Addr}
    (nc_BadLength : PySem.W.nsIn K mainGlobals "BadLength" = some (some (.ref C_BadLength)))
    {C_BadEquation : Addr}
    (nc_BadEquation : PySem.W.nsIn K mainGlobals "BadEquation" = some (some (.ref C_BadEquation)))
    {C_BadLevel : Addr}
    (nc_BadLevel : PySem.W.nsIn K mainGlobals "BadLevel" = some (some (.ref C_BadLevel)))
    {C_BadRegisters : Addr}
    (nc_BadRegisters : PySem.W.nsIn K mainGlobals "BadRegisters" = some (some (.ref C_BadRegisters)))
    {C_BadKey : Addr}
    (nc_BadKey : PySem.W.nsIn K mainGlobals "BadKey" = some (some (.ref C_BadKey)))
    {C_BadRow : Addr}
    (nc_BadRow : PySem.W.nsIn K mainGlobals "BadRow" = some (some (.ref C_BadRow)))
    {C_BadInner : Addr}
    (nc_BadInner : PySem.W.nsIn K mainGlobals "BadInner" = some (some (.ref C_BadInner)))
    {C_BadBy : Addr}
    (nc_BadBy : PySem.W.nsIn K mainGlobals "BadBy" = some (some (.ref C_BadBy)))
    {C_BadSpace : Addr}
    (nc_BadSpace : PySem.W.nsIn K mainGlobals "BadSpace" = some (some (.ref C_BadSpace)))
    {C_BadSecond : Addr}
    (nc_BadSecond : PySem.W.nsIn K mainGlobals "BadSecond" = some (some (.ref C_BadSecond)))
    {C_BadSize : Addr}
    (nc_BadSize : PySem.W.nsIn K mainGlobals "BadSize" = some (some (.ref C_BadSize)))
    {C_BadPlace : Addr}
    (nc_BadPlace : PySem.W.nsIn K mainGlobals "BadPlace" = some (some (.ref C_BadPlace)))
    {C_BadRows : Addr}
    (nc_BadRows : PySem.W.nsIn K mainGlobals "BadRows" = some (some (.ref C_BadRows)))
    {C_TooMany : Addr}
    (nc_TooMany : PySem.W.nsIn K mainGlobals "TooMany" = some (some (.ref C_TooMany)))
    {C_FoldedError : Addr}
    (nc_FoldedError : PySem.W.nsIn K mainGlobals "FoldedError" = some (some (.ref C_FoldedError)))
    {nm_BadRegisters q_BadRegisters : Str} {N_BadRegisters : Addr} {bs_BadRegisters bm_BadRegisters : List Value} {sn_BadRegisters : List Str} {sub_BadRegisters : List Value} {ab_BadRegisters : Bool} {col_BadRegisters : Option Bool} {dd_BadRegisters : Option Addr} {k0_BadRegisters k1_BadRegisters k2_BadRegisters k3_BadRegisters k5_BadRegisters : Option Value}
    (xc_BadRegisters : K.lookup C_BadRegisters = some (excClassObj nm_BadRegisters q_BadRegisters C_BadRegisters N_BadRegisters bs_BadRegisters bm_BadRegisters true sn_BadRegisters sub_BadRegisters ab_BadRegisters col_BadRegisters dd_BadRegisters k0_BadRegisters k1_BadRegisters k2_BadRegisters k3_BadRegisters k5_BadRegisters "ValueError.__new__"))
    (xr_BadRegisters : PySem.HandSPX.refsVE bm_BadRegisters = true)
    (xs_BadRegisters : PySem.W.findIn K (.ref C_BadRegisters) "__setattr__" = some (some (.builtin "object.__setattr__")))
    (xe_BadRegisters : PySem.W.subIn K (.ref C_BadRegisters) (.type "BaseException") = some true)
    (xt_BadRegisters : PySem.W.typeIn K (.ref C_BadRegisters) = some (.type "type"))
    (xk_BadRegisters : PySem.W.keepIn K (.ref C_BadRegisters) = true)
    (xl_BadRegisters : (PySem.W.clsIn K C_BadRegisters).isSome = true)
    (xa_BadRegisters : PySem.W.findIn K (.ref C_BadRegisters) "__getattribute__" = some (some (.builtin "BaseException.__getattribute__")))
    (xg_BadRegisters : PySem.W.findIn K (.ref C_BadRegisters) "__getattr__" = some none)
    (xd_BadRegisters : PySem.W.hasDictIn K C_BadRegisters = true)
    (xo_BadRegisters : PySem.W.findIn K (.ref C_BadRegisters) "__class__" = some (some (.builtin "object.__class__")))
    (xm_BadRegisters : PySem.W.mroIn K C_BadRegisters (.type "object") = some true)
    (xft_BadRegisters : PySem.W.findIn K (.ref C_BadRegisters) "thing" = some none)
    (xfm_BadRegisters : PySem.W.findIn K (.ref C_BadRegisters) "many" = some none)
    (xfi_BadRegisters : PySem.W.findIn K (.ref C_BadRegisters) "index" = some none)
    {fI_BadRegisters : Addr} {ocI_BadRegisters kVI_BadRegisters dcI_BadRegisters pmI_BadRegisters cdI_BadRegisters ctI_BadRegisters : Value} {odI_BadRegisters anI_BadRegisters : Option Addr} {slI_BadRegisters : Array (Option Value)}
    (ii_BadRegisters : PySem.W.findIn K (.ref C_BadRegisters) "__init__" = some (some (.ref fI_BadRegisters)))
    (it_BadRegisters : PySem.W.typeIn K (.ref fI_BadRegisters) = some (.type "function"))
    (il_BadRegisters : K.lookup fI_BadRegisters = some ⟨ocI_BadRegisters, odI_BadRegisters, .func (PySem.W.fnOf "__init__" "BadRegisters.__init__" (defArgs i_BadRegisters) (defBody i_BadRegisters) (defScope i_BadRegisters) .none kVI_BadRegisters dcI_BadRegisters pmI_BadRegisters anI_BadRegisters cdI_BadRegisters ctI_BadRegisters), slI_BadRegisters⟩)
    (ic_BadRegisters : PySem.W.codeIn K cdI_BadRegisters "BadRegisters.__init__" = true)
    (kb_BadRegisters : (([(("BadCore" : Str), C_BadCore), (("BadInput" : Str), C_BadInput), (("BadSigns" : Str), C_BadSigns), (("BadMany" : Str), C_BadMany), (("BadLevels" : Str), C_BadLevels), (("BadSteps" : Str), C_BadSteps), (("BadOpens" : Str), C_BadOpens), (("BadCloses" : Str), C_BadCloses), (("BadEnds" : Str), C_BadEnds), (("BadLength" : Str), C_BadLength), (("BadEquation" : Str), C_BadEquation), (("BadLevel" : Str), C_BadLevel), (("BadRegisters" : Str), C_BadRegisters), (("BadKey" : Str), C_BadKey), (("BadRow" : Str), C_BadRow), (("BadInner" : Str), C_BadInner), (("BadBy" : Str), C_BadBy), (("BadSpace" : Str), C_BadSpace), (("BadSecond" : Str), C_BadSecond), (("BadSize" : Str), C_BadSize), (("BadPlace" : Str), C_BadPlace), (("BadRows" : Str), C_BadRows), (("TooMany" : Str), C_TooMany)] : List (Str × Addr)).all fun p => PySem.W.kitOne K (.ref C_BadRegisters) (.ref p.2) == some (("BadRegisters" : Str) == p.1)) = true)
    (ke_BadRegisters : PySem.W.exmOne K (.ref C_BadRegisters) (.ref C_FoldedError) = some true)
    {nm_BadMany q_BadMany : Str} {N_BadMany : Addr} {bs_BadMany bm_BadMany : List Value} {sn_BadMany : List Str} {sub_BadMany : List Value} {ab_BadMany : Bool} {col_BadMany : Option Bool} {dd_BadMany : Option Addr} {k0_BadMany k1_BadMany k2_BadMany k3_BadMany k5_BadMany : Option Value}
    (xc_BadMany : K.lookup C_BadMany = some (excClassObj nm_BadMany q_BadMany C_BadMany N_BadMany bs_BadMany bm_BadMany true sn_BadMany sub_BadMany ab_BadMany col_BadMany dd_BadMany k0_BadMany k1_BadMany k2_BadMany k3_BadMany k5_BadMany "ValueError.__new__"))
    (xr_BadMany : PySem.HandSPX.refsVE bm_BadMany = true)
    (xs_BadMany : PySem.W.findIn K (.ref C_BadMany) "__setattr__" = some (some (.builtin "object.__setattr__")))
    (xe_BadMany : PySem.W.subIn K (.ref C_BadMany) (.type "BaseException") = some true)
    (xt_BadMany : PySem.W.typeIn K (.ref C_BadMany) = some (.type "type"))
    (xk_BadMany : PySem.W.keepIn K (.ref C_BadMany) = true)
    (xl_BadMany : (PySem.W.clsIn K C_BadMany).isSome = true)
    (xa_BadMany : PySem.W.findIn K (.ref C_BadMany) "__getattribute__" = some (some (.builtin "BaseException.__getattribute__")))
    (xg_BadMany : PySem.W.findIn K (.ref C_BadMany) "__getattr__" = some none)
    (xd_BadMany : PySem.W.hasDictIn K C_BadMany = true)
    (xo_BadMany : PySem.W.findIn K (.ref C_BadMany) "__class__" = some (some (.builtin "object.__class__")))
    (xm_BadMany : PySem.W.mroIn K C_BadMany (.type "object") = some true)
    (xft_BadMany : PySem.W.findIn K (.ref C_BadMany) "thing" = some none)
    (xfm_BadMany : PySem.W.findIn K (.ref C_BadMany) "many" = some none)
    (xfi_BadMany : PySem.W.findIn K (.ref C_BadMany) "index" = some none)
    {fI_BadMany : Addr} {ocI_BadMany kVI_BadMany dcI_BadMany pmI_BadMany cdI_BadMany ctI_BadMany : Value} {odI_BadMany anI_BadMany : Option Addr} {slI_BadMany : Array (Option Value)}
    (ii_BadMany : PySem.W.findIn K (.ref C_BadMany) "__init__" = some (some (.ref fI_BadMany)))
    (it_BadMany : PySem.W.typeIn K (.ref fI_BadMany) = some (.type "function"))
    (il_BadMany : K.lookup fI_BadMany = some ⟨ocI_BadMany, odI_BadMany, .func (PySem.W.fnOf "__init__" "BadMany.__init__" (defArgs i_BadMany) (defBody i_BadMany) (defScope i_BadMany) .none kVI_BadMany dcI_BadMany pmI_BadMany anI_BadMany cdI_BadMany ctI_BadMany), slI_BadMany⟩)
    (ic_BadMany : PySem.W.codeIn K cdI_BadMany "BadMany.__init__" = true)
    (kb_BadMany : (([(("BadCore" : Str), C_BadCore), (("BadInput" : Str), C_BadInput), (("BadSigns" : Str), C_BadSigns), (("BadMany" : Str), C_BadMany), (("BadLevels" : Str), C_BadLevels), (("BadSteps" : Str), C_BadSteps), (("BadOpens" : Str), C_BadOpens), (("BadCloses" : Str), C_BadCloses), (("BadEnds" : Str), C_BadEnds), (("BadLength" : Str), C_BadLength), (("BadEquation" : Str), C_BadEquation), (("BadLevel" : Str), C_BadLevel), (("BadRegisters" : Str), C_BadRegisters), (("BadKey" : Str), C_BadKey), (("BadRow" : Str), C_BadRow), (("BadInner" : Str), C_BadInner), (("BadBy" : Str), C_BadBy), (("BadSpace" : Str), C_BadSpace), (("BadSecond" : Str), C_BadSecond), (("BadSize" : Str), C_BadSize), (("BadPlace" : Str), C_BadPlace), (("BadRows" : Str), C_BadRows), (("TooMany" : Str), C_TooMany)] : List (Str × Addr)).all fun p => PySem.W.kitOne K (.ref C_BadMany) (.ref p.2) == some (("BadMany" : Str) == p.1)) = true)
    (ke_BadMany : PySem.W.exmOne K (.ref C_BadMany) (.ref C_FoldedError) = some true)
    {nm_BadEquation q_BadEquation : Str} {N_BadEquation : Addr} {bs_BadEquation bm_BadEquation : List Value} {sn_BadEquation : List Str} {sub_BadEquation : List Value} {ab_BadEquation : Bool} {col_BadEquation : Option Bool} {dd_BadEquation : Option Addr} {k0_BadEquation k1_BadEquation k2_BadEquation k3_BadEquation k5_BadEquation : Option Value}
    (xc_BadEquation : K.lookup C_BadEquation = some (excClassObj nm_BadEquation q_BadEquation C_BadEquation N_BadEquation bs_BadEquation bm_BadEquation true sn_BadEquation sub_BadEquation ab_BadEquation col_BadEquation dd_BadEquation k0_BadEquation k1_BadEquation k2_BadEquation k3_BadEquation k5_BadEquation "ValueError.__new__"))
    (xr_BadEquation : PySem.HandSPX.refsVE bm_BadEquation = true)
    (xs_BadEquation : PySem.W.findIn K (.ref C_BadEquation) "__setattr__" = some (some (.builtin "object.__setattr__")))
    (xe_BadEquation : PySem.W.subIn K (.ref C_BadEquation) (.type "BaseException") = some true)
    (xt_BadEquation : PySem.W.typeIn K (.ref C_BadEquation) = some (.type "type"))
    (xk_BadEquation : PySem.W.keepIn K (.ref C_BadEquation) = true)
    (xl_BadEquation : (PySem.W.clsIn K C_BadEquation).isSome = true)
    (xa_BadEquation : PySem.W.findIn K (.ref C_BadEquation) "__getattribute__" = some (some (.builtin "BaseException.__getattribute__")))
    (xg_BadEquation : PySem.W.findIn K (.ref C_BadEquation) "__getattr__" = some none)
    (xd_BadEquation : PySem.W.hasDictIn K C_BadEquation = true)
    (xo_BadEquation : PySem.W.findIn K (.ref C_BadEquation) "__class__" = some (some (.builtin "object.__class__")))
    (xm_BadEquation : PySem.W.mroIn K C_BadEquation (.type "object") = some true)
    (xft_BadEquation : PySem.W.findIn K (.ref C_BadEquation) "thing" = some none)
    (xfm_BadEquation : PySem.W.findIn K (.ref C_BadEquation) "many" = some none)
    (xfi_BadEquation : PySem.W.findIn K (.ref C_BadEquation) "index" = some none)
    {fI_BadEquation : Addr} {ocI_BadEquation kVI_BadEquation dcI_BadEquation pmI_BadEquation cdI_BadEquation ctI_BadEquation : Value} {odI_BadEquation anI_BadEquation : Option Addr} {slI_BadEquation : Array (Option Value)}
    (ii_BadEquation : PySem.W.findIn K (.ref C_BadEquation) "__init__" = some (some (.ref fI_BadEquation)))
    (it_BadEquation : PySem.W.typeIn K (.ref fI_BadEquation) = some (.type "function"))
    (il_BadEquation : K.lookup fI_BadEquation = some ⟨ocI_BadEquation, odI_BadEquation, .func (PySem.W.fnOf "__init__" "BadEquation.__init__" (defArgs i_BadEquation) (defBody i_BadEquation) (defScope i_BadEquation) .none kVI_BadEquation dcI_BadEquation pmI_BadEquation anI_BadEquation cdI_BadEquation ctI_BadEquation), slI_BadEquation⟩)
    (ic_BadEquation : PySem.W.codeIn K cdI_BadEquation "BadEquation.__init__" = true)
    (kb_BadEquation : (([(("BadCore" : Str), C_BadCore), (("BadInput" : Str), C_BadInput), (("BadSigns" : Str), C_BadSigns), (("BadMany" : Str), C_BadMany), (("BadLevels" : Str), C_BadLevels), (("BadSteps" : Str), C_BadSteps), (("BadOpens" : Str), C_BadOpens), (("BadCloses" : Str), C_BadCloses), (("BadEnds" : Str), C_BadEnds), (("BadLength" : Str), C_BadLength), (("BadEquation" : Str), C_BadEquation), (("BadLevel" : Str), C_BadLevel), (("BadRegisters" : Str), C_BadRegisters), (("BadKey" : Str), C_BadKey), (("BadRow" : Str), C_BadRow), (("BadInner" : Str), C_BadInner), (("BadBy" : Str), C_BadBy), (("BadSpace" : Str), C_BadSpace), (("BadSecond" : Str), C_BadSecond), (("BadSize" : Str), C_BadSize), (("BadPlace" : Str), C_BadPlace), (("BadRows" : Str), C_BadRows), (("TooMany" : Str), C_TooMany)] : List (Str × Addr)).all fun p => PySem.W.kitOne K (.ref C_BadEquation) (.ref p.2) == some (("BadEquation" : Str) == p.1)) = true)
    (ke_BadEquation : PySem.W.exmOne K (.ref C_BadEquation) (.ref C_FoldedError) = some true)
    (cg : PySem.W.specialIn K (.builtin "object.__class__") "__get__" = some (some (.builtin "getset_descriptor.__get__")))
    (ct : PySem.W.takesIn K (.builtin "object.__class__") = some true)
    {d_SIZES : Addr} {es_SIZES : Array DictEntry} {n_SIZES : Nat}
    (wn_SIZES : PySem.W.nsIn K mainGlobals "SIZES" = some (some (.ref d_SIZES)))
    (wl_SIZES : K.lookup d_SIZES = some ⟨.type "dict", none, .dict es_SIZES n_SIZES, #[]⟩)
    (we_SIZES : intEsB es_SIZES.toList wd_SIZES = true)
    (wb_SIZES : (d_SIZES == sysModules) = false) :
    LamX.LawAtS l w K (L2N.CX l.prog w) 8 63 "script" mg fa h := by
  have e := hfa.symm.trans (PySem.W.mg_of X G a25)
  cases e
  have hn : ∀ p ∈ ([(("BadCore" : Str), C_BadCore), (("BadInput" : Str), C_BadInput), (("BadSigns" : Str), C_BadSigns), (("BadMany" : Str), C_BadMany), (("BadLevels" : Str), C_BadLevels), (("BadSteps" : Str), C_BadSteps), (("BadOpens" : Str), C_BadOpens), (("BadCloses" : Str), C_BadCloses), (("BadEnds" : Str), C_BadEnds), (("BadLength" : Str), C_BadLength), (("BadEquation" : Str), C_BadEquation), (("BadLevel" : Str), C_BadLevel), (("BadRegisters" : Str), C_BadRegisters), (("BadKey" : Str), C_BadKey), (("BadRow" : Str), C_BadRow), (("BadInner" : Str), C_BadInner), (("BadBy" : Str), C_BadBy), (("BadSpace" : Str), C_BadSpace), (("BadSecond" : Str), C_BadSecond), (("BadSize" : Str), C_BadSize), (("BadPlace" : Str), C_BadPlace), (("BadRows" : Str), C_BadRows), (("TooMany" : Str), C_TooMany)] : List (Str × Addr)), mg p.1 = some (.ref p.2) := List.forall_mem_cons.mpr ⟨PySem.W.mg_of X G nc_BadCore, List.forall_mem_cons.mpr ⟨PySem.W.mg_of X G nc_BadInput, List.forall_mem_cons.mpr ⟨PySem.W.mg_of X G nc_BadSigns, List.forall_mem_cons.mpr ⟨PySem.W.mg_of X G nc_BadMany, List.forall_mem_cons.mpr ⟨PySem.W.mg_of X G nc_BadLevels, List.forall_mem_cons.mpr ⟨PySem.W.mg_of X G nc_BadSteps, List.forall_mem_cons.mpr ⟨PySem.W.mg_of X G nc_BadOpens, List.forall_mem_cons.mpr ⟨PySem.W.mg_of X G nc_BadCloses, List.forall_mem_cons.mpr ⟨PySem.W.mg_of X G nc_BadEnds, List.forall_mem_cons.mpr ⟨PySem.W.mg_of X G nc_BadLength, List.forall_mem_cons.mpr ⟨PySem.W.mg_of X G nc_BadEquation, List.forall_mem_cons.mpr ⟨PySem.W.mg_of X G nc_BadLevel, List.forall_mem_cons.mpr ⟨PySem.W.mg_of X G nc_BadRegisters, List.forall_mem_cons.mpr ⟨PySem.W.mg_of X G nc_BadKey, List.forall_mem_cons.mpr ⟨PySem.W.mg_of X G nc_BadRow, List.forall_mem_cons.mpr ⟨PySem.W.mg_of X G nc_BadInner, List.forall_mem_cons.mpr ⟨PySem.W.mg_of X G nc_BadBy, List.forall_mem_cons.mpr ⟨PySem.W.mg_of X G nc_BadSpace, List.forall_mem_cons.mpr ⟨PySem.W.mg_of X G nc_BadSecond, List.forall_mem_cons.mpr ⟨PySem.W.mg_of X G nc_BadSize, List.forall_mem_cons.mpr ⟨PySem.W.mg_of X G nc_BadPlace, List.forall_mem_cons.mpr ⟨PySem.W.mg_of X G nc_BadRows, List.forall_mem_cons.mpr ⟨PySem.W.mg_of X G nc_TooMany, fun _ h => nomatch h⟩⟩⟩⟩⟩⟩⟩⟩⟩⟩⟩⟩⟩⟩⟩⟩⟩⟩⟩⟩⟩⟩⟩
  have X_BadRegisters : ExcX K C_BadRegisters := ⟨xl_BadRegisters, xa_BadRegisters, xg_BadRegisters, xe_BadRegisters, xd_BadRegisters, xo_BadRegisters, cg, ct, xm_BadRegisters⟩
  have N_BadRegisters : NamF K mg C_BadRegisters "BadRegisters" namedL := ⟨X_BadRegisters, List.forall_mem_cons.mpr ⟨xft_BadRegisters, List.forall_mem_cons.mpr ⟨xfm_BadRegisters, List.forall_mem_cons.mpr ⟨xfi_BadRegisters, fun _ h => nomatch h⟩⟩⟩, nam_is _ hn kb_BadRegisters⟩
  have R_BadRegisters : ∀ (P : Program) (w : World) (base : Heap), RaiD P w K mg base 1 "BadRegisters" C_BadRegisters "thing" := fun P w base => raiD_of ⟨⟨_, _, _, _, _, _, _, _, _, _, _, _, _, _, _, xc_BadRegisters, xr_BadRegisters⟩, xs_BadRegisters, xe_BadRegisters, xt_BadRegisters, xk_BadRegisters⟩ (PySem.W.mg_of X G nc_BadRegisters) ii_BadRegisters it_BadRegisters il_BadRegisters ic_BadRegisters Si_BadRegisters rfl rfl rfl (by decide) (by decide) xft_BadRegisters (fun us hl => match us, hl with | [_, _], _ => rfl)
  have X_BadMany : ExcX K C_BadMany := ⟨xl_BadMany, xa_BadMany, xg_BadMany, xe_BadMany, xd_BadMany, xo_BadMany, cg, ct, xm_BadMany⟩
  have N_BadMany : NamF K mg C_BadMany "BadMany" namedL := ⟨X_BadMany, List.forall_mem_cons.mpr ⟨xft_BadMany, List.forall_mem_cons.mpr ⟨xfm_BadMany, List.forall_mem_cons.mpr ⟨xfi_BadMany, fun _ h => nomatch h⟩⟩⟩, nam_is _ hn kb_BadMany⟩
  have R_BadMany : ∀ (P : Program) (w : World) (base : Heap), RaiD P w K mg base 1 "BadMany" C_BadMany "thing" := fun P w base => raiD_of ⟨⟨_, _, _, _, _, _, _, _, _, _, _, _, _, _, _, xc_BadMany, xr_BadMany⟩, xs_BadMany, xe_BadMany, xt_BadMany, xk_BadMany⟩ (PySem.W.mg_of X G nc_BadMany) ii_BadMany it_BadMany il_BadMany ic_BadMany Si_BadMany rfl rfl rfl (by decide) (by decide) xft_BadMany (fun us hl => match us, hl with | [_, _], _ => rfl)
  have X_BadEquation : ExcX K C_BadEquation := ⟨xl_BadEquation, xa_BadEquation, xg_BadEquation, xe_BadEquation, xd_BadEquation, xo_BadEquation, cg, ct, xm_BadEquation⟩
  have N_BadEquation : NamF K mg C_BadEquation "BadEquation" namedL := ⟨X_BadEquation, List.forall_mem_cons.mpr ⟨xft_BadEquation, List.forall_mem_cons.mpr ⟨xfm_BadEquation, List.forall_mem_cons.mpr ⟨xfi_BadEquation, fun _ h => nomatch h⟩⟩⟩, nam_is _ hn kb_BadEquation⟩
  have R_BadEquation : ∀ (P : Program) (w : World) (base : Heap), RaiD P w K mg base 1 "BadEquation" C_BadEquation "thing" := fun P w base => raiD_of ⟨⟨_, _, _, _, _, _, _, _, _, _, _, _, _, _, _, xc_BadEquation, xr_BadEquation⟩, xs_BadEquation, xe_BadEquation, xt_BadEquation, xk_BadEquation⟩ (PySem.W.mg_of X G nc_BadEquation) ii_BadEquation it_BadEquation il_BadEquation ic_BadEquation Si_BadEquation rfl rfl rfl (by decide) (by decide) xft_BadEquation (fun us hl => match us, hl with | [_, _], _ => rfl)
  have T : Top K mg (cvOf [(("BadRegisters" : Str), C_BadRegisters), (("BadMany" : Str), C_BadMany), (("BadEquation" : Str), C_BadEquation)]) := {
    rai_BadRegisters := ⟨C_BadRegisters, rfl, R_BadRegisters⟩
    rai_BadMany := ⟨C_BadMany, rfl, R_BadMany⟩
    rai_BadEquation := ⟨C_BadEquation, rfl, R_BadEquation⟩
    nam := fun x hx C hC => by
      simp only [List.mem_cons, List.not_mem_nil, or_false] at hx
      rcases hx with rfl | rfl | rfl
      · cases (show Value.ref C_BadRegisters = Value.ref C from hC); exact N_BadRegisters
      · cases (show Value.ref C_BadMany = Value.ref C from hC); exact N_BadMany
      · cases (show Value.ref C_BadEquation = Value.ref C from hC); exact N_BadEquation
    fo := ⟨C_FoldedError, PySem.W.mg_of X G nc_FoldedError, List.forall_mem_cons.mpr ⟨⟨C_BadRegisters, rfl, ke_BadRegisters⟩, List.forall_mem_cons.mpr ⟨⟨C_BadMany, rfl, ke_BadMany⟩, List.forall_mem_cons.mpr ⟨⟨C_BadEquation, rfl, ke_BadEquation⟩, fun _ h => nomatch h⟩⟩⟩⟩
    d__law_is_once := ⟨f0, _, fun_mk (st := s__law_is_once) l0 c0 k0, PySem.W.mg_of X G a0, (fun_mk (st := s__law_is_once) l0 c0 k0).binds (ps := ["thing"]) fun _ _ _ _ _ _ us hl => match us, hl with | [_], _ => rfl⟩
    d__law_spoilt := ⟨f1, _, fun_mk (st := s__law_spoilt) l1 c1 k1, PySem.W.mg_of X G a1, (fun_mk (st := s__law_spoilt) l1 c1 k1).binds (ps := ["thing"]) fun _ _ _ _ _ _ us hl => match us, hl with | [_], _ => rfl⟩
    d__law_apart := ⟨f2, _, fun_mk (st := s__law_apart) l2 c2 k2, PySem.W.mg_of X G a2, (fun_mk (st := s__law_apart) l2 c2 k2).binds (ps := ["thing"]) fun _ _ _ _ _ _ us hl => match us, hl with | [_], _ => rfl⟩
    d__law_below := ⟨f3, _, fun_mk (st := s__law_below) l3 c3 k3, PySem.W.mg_of X G a3, (fun_mk (st := s__law_below) l3 c3 k3).binds (ps := ["stream", "many"]) fun _ _ _ _ _ _ us hl => match us, hl with | [_, _], _ => rfl⟩
    d__law_bpairs := ⟨f4, _, fun_mk (st := s__law_bpairs) l4 c4 k4, PySem.W.mg_of X G a4, (fun_mk (st := s__law_bpairs) l4 c4 k4).binds (ps := ["many"]) fun _ _ _ _ _ _ us hl => match us, hl with | [_], _ => rfl⟩
    d__law_blift := ⟨f5, _, fun_mk (st := s__law_blift) l5 c5 k5, PySem.W.mg_of X G a5, (fun_mk (st := s__law_blift) l5 c5 k5).binds (ps := ["x"]) fun _ _ _ _ _ _ us hl => match us, hl with | [_], _ => rfl⟩
    d__law_chance := ⟨f6, _, fun_mk (st := s__law_chance) l6 c6 k6, PySem.W.mg_of X G a6, (fun_mk (st := s__law_chance) l6 c6 k6).binds (ps := ["stream", "many"]) fun _ _ _ _ _ _ us hl => match us, hl with | [_, _], _ => rfl⟩
    d__law_bnumber := ⟨f7, _, fun_mk (st := s__law_bnumber) l7 c7 k7, PySem.W.mg_of X G a7, (fun_mk (st := s__law_bnumber) l7 c7 k7).binds (ps := ["stream"]) fun _ _ _ _ _ _ us hl => match us, hl with | [_], _ => rfl⟩
    d__law_bnamed := ⟨f8, _, fun_mk (st := s__law_bnamed) l8 c8 k8, PySem.W.mg_of X G a8, (fun_mk (st := s__law_bnamed) l8 c8 k8).binds (ps := ["e"]) fun _ _ _ _ _ _ us hl => match us, hl with | [_], _ => rfl⟩
    d__law_braised := ⟨f9, _, fun_mk (st := s__law_braised) l9 c9 k9, PySem.W.mg_of X G a9, (fun_mk (st := s__law_braised) l9 c9 k9).binds (ps := ["run"]) fun _ _ _ _ _ _ us hl => match us, hl with | [_], _ => rfl⟩
    d__law_same := ⟨f10, _, fun_mk (st := s__law_same) l10 c10 k10, PySem.W.mg_of X G a10, (fun_mk (st := s__law_same) l10 c10 k10).binds (ps := ["found", "due"]) fun _ _ _ _ _ _ us hl => match us, hl with | [_, _], _ => rfl⟩
    d__law_brefuses := ⟨f11, _, fun_mk (st := s__law_brefuses) l11 c11 k11, PySem.W.mg_of X G a11, (fun_mk (st := s__law_brefuses) l11 c11 k11).binds (ps := ["word", "thing", "run"]) fun _ _ _ _ _ _ us hl => match us, hl with | [_, _, _], _ => rfl⟩
    d__law_bvalue := ⟨f12, _, fun_mk (st := s__law_bvalue) l12 c12 k12, PySem.W.mg_of X G a12, (fun_mk (st := s__law_bvalue) l12 c12 k12).binds (ps := ["equation", "x"]) fun _ _ _ _ _ _ us hl => match us, hl with | [_, _], _ => rfl⟩
    d__law_mixed := ⟨f13, _, fun_mk (st := s__law_mixed) l13 c13 k13, PySem.W.mg_of X G a13, (fun_mk (st := s__law_mixed) l13 c13 k13).binds (ps := ["stream", "some"]) fun _ _ _ _ _ _ us hl => match us, hl with | [_, _], _ => rfl⟩
    d__law_loose := ⟨f14, _, fun_mk (st := s__law_loose) l14 c14 k14, PySem.W.mg_of X G a14, (fun_mk (st := s__law_loose) l14 c14 k14).binds (ps := ["stream", "thing"]) fun _ _ _ _ _ _ us hl => match us, hl with | [_, _], _ => rfl⟩
    d__law_pick := ⟨f15, _, fun_mk (st := s__law_pick) l15 c15 k15, PySem.W.mg_of X G a15, (fun_mk (st := s__law_pick) l15 c15 k15).binds (ps := ["stream", "some"]) fun _ _ _ _ _ _ us hl => match us, hl with | [_, _], _ => rfl⟩
    d__law_start := ⟨f16, _, fun_mk (st := s__law_start) l16 c16 k16, PySem.W.mg_of X G a16, (fun_mk (st := s__law_start) l16 c16 k16).binds (ps := ["script"]) fun _ _ _ _ _ _ us hl => match us, hl with | [_], _ => rfl⟩
    d_pairs_of := ⟨f17, _, fun_mk (st := s_pairs_of) l17 c17 k17, PySem.W.mg_of X G a17, (fun_mk (st := s_pairs_of) l17 c17 k17).binds (ps := ["many"]) fun _ _ _ _ _ _ us hl => match us, hl with | [_], _ => rfl⟩
    d_lift_of := ⟨f18, _, fun_mk (st := s_lift_of) l18 c18 k18, PySem.W.mg_of X G a18, (fun_mk (st := s_lift_of) l18 c18 k18).binds (ps := ["registers"]) fun _ _ _ _ _ _ us hl => match us, hl with | [_], _ => rfl⟩
    d_is_integer := ⟨f19, _, fun_mk (st := s_is_integer) l19 c19 k19, PySem.W.mg_of X G a19, (fun_mk (st := s_is_integer) l19 c19 k19).binds (ps := ["thing"]) fun _ _ _ _ _ _ us hl => match us, hl with | [_], _ => rfl⟩
    d_is_row := ⟨f20, _, fun_mk (st := s_is_row) l20 c20 k20, PySem.W.mg_of X G a20, (fun_mk (st := s_is_row) l20 c20 k20).binds (ps := ["thing", "size"]) fun _ _ _ _ _ _ us hl => match us, hl with | [_, _], _ => rfl⟩
    d_need_registers := ⟨f21, _, fun_mk (st := s_need_registers) l21 c21 k21, PySem.W.mg_of X G a21, (fun_mk (st := s_need_registers) l21 c21 k21).binds (ps := ["registers", "least", "most"]) fun _ _ _ _ _ _ us hl => match us, hl with | [_, _, _], _ => rfl⟩
    d_lift := ⟨f22, _, fun_mk (st := s_lift) l22 c22 k22, PySem.W.mg_of X G a22, (fun_mk (st := s_lift) l22 c22 k22).binds (ps := ["registers"]) fun _ _ _ _ _ _ us hl => match us, hl with | [_], _ => rfl⟩
    d_monomials := ⟨f23, _, fun_mk (st := s_monomials) l23 c23 k23, PySem.W.mg_of X G a23, (fun_mk (st := s_monomials) l23 c23 k23).binds (ps := ["many"]) fun _ _ _ _ _ _ us hl => match us, hl with | [_], _ => rfl⟩
    d_value_at := ⟨f24, _, fun_mk (st := s_value_at) l24 c24 k24, PySem.W.mg_of X G a24, (fun_mk (st := s_value_at) l24 c24 k24).binds (ps := ["equation", "registers"]) fun _ _ _ _ _ _ us hl => match us, hl with | [_, _], _ => rfl⟩
    z_all := PySem.W.mg_none_of X G z_all
    z_bool := PySem.W.mg_none_of X G z_bool
    z_dict := PySem.W.mg_none_of X G z_dict
    z_int := PySem.W.mg_none_of X G z_int
    z_isinstance := PySem.W.mg_none_of X G z_isinstance
    z_len := PySem.W.mg_none_of X G z_len
    z_list := PySem.W.mg_none_of X G z_list
    z_range := PySem.W.mg_none_of X G z_range
    z_str := PySem.W.mg_none_of X G z_str
    z_sum := PySem.W.mg_none_of X G z_sum
    z_tuple := PySem.W.mg_none_of X G z_tuple
    z_zip := PySem.W.mg_none_of X G z_zip
    wd_SIZES := ⟨d_SIZES, PySem.W.mg_of X G wn_SIZES, ⟨⟨_, _, wl_SIZES, we_SIZES⟩, wb_SIZES⟩⟩ }
  exact lawAtS X own l25 rfl pc pv pn ph (fun s v => .of_eq rfl) fun base TB => ok_law T l25 c25 TB math
end K18
set_option Elab.async false
set_option linter.all false
set_option maxRecDepth 100000
set_option maxHeartbeats 4000000
open PySem PySem.W PyProof.Rows
set_option maxHeartbeats 0 in
theorem PySem.Challenge.cw_foldedsums_k18_lifts_holds : PySem.Challenge.rw_foldedsums_k18_lifts.Holds := by
  w_on; o_law; k_head; (case hw => w_witness2)
  k_fill
  refine LamX.walk_ofOwn (l := PySem.Challenge.rw_foldedsums_k18_lifts) (n := 63) (k := 8) (x := "script") (CX := fun w => L2N.CX PySem.Challenge.rw_foldedsums_k18_lifts.prog w) rfl (by decide) rfl ⟨rfl, by decide, by decide⟩ (by kernel_rfl) (fun w h Y => PySem.W.km_in_of Y) ?F (fun _ _ _ _ _ h => by obtain ⟨_, _, _, _, _, _, _, _, _, _, _, _, z⟩ := h; exact z)
  case F =>
    intro w mg fa h YP KX G hmg own
    refine' K18.all_mk KX G hmg own ?a0 ?l0 ?c0 ?k0 ?a1 ?l1 ?c1 ?k1 ?a2 ?l2 ?c2 ?k2 ?a3 ?l3 ?c3 ?k3 ?a4 ?l4 ?c4 ?k4 ?a5 ?l5 ?c5 ?k5 ?a6 ?l6 ?c6 ?k6 ?a7 ?l7 ?c7 ?k7 ?a8 ?l8 ?c8 ?k8 ?a9 ?l9 ?c9 ?k9 ?a10 ?l10 ?c10 ?k10 ?a11 ?l11 ?c11 ?k11 ?a12 ?l12 ?c12 ?k12 ?a13 ?l13 ?c13 ?k13 ?a14 ?l14 ?c14 ?k14 ?a15 ?l15 ?c15 ?k15 ?a16 ?l16 ?c16 ?k16 ?a17 ?l17 ?c17 ?k17 ?a18 ?l18 ?c18 ?k18 ?a19 ?l19 ?c19 ?k19 ?a20 ?l20 ?c20 ?k20 ?a21 ?l21 ?c21 ?k21 ?a22 ?l22 ?c22 ?k22 ?a23 ?l23 ?c23 ?k23 ?a24 ?l24 ?c24 ?k24 ?a25 ?l25 ?c25 ?k25 ?pc ?pv ?pn ?ph ?z_all ?z_bool ?z_dict ?z_int ?z_isinstance ?z_len ?z_list ?z_range ?z_str ?z_sum ?z_tuple ?z_zip ?nc_BadCore ?nc_BadInput ?nc_BadSigns ?nc_BadMany ?nc_BadLevels ?nc_BadSteps ?nc_BadOpens ?nc_BadCloses ?nc_BadEnds ?nc_BadLength ?nc_BadEquation ?nc_BadLevel ?nc_BadRegisters ?nc_BadKey ?nc_BadRow ?nc_BadInner ?nc_BadBy ?nc_BadSpace ?nc_BadSecond ?nc_BadSize ?nc_BadPlace ?nc_BadRows ?nc_TooMany ?nc_FoldedError ?xc_BadRegisters ?xr_BadRegisters ?xs_BadRegisters ?xe_BadRegisters ?xt_BadRegisters ?xk_BadRegisters ?xl_BadRegisters ?xa_BadRegisters ?xg_BadRegisters ?xd_BadRegisters ?xo_BadRegisters ?xm_BadRegisters ?xft_BadRegisters ?xfm_BadRegisters ?xfi_BadRegisters ?ii_BadRegisters ?it_BadRegisters ?il_BadRegisters ?ic_BadRegisters ?kb_BadRegisters ?ke_BadRegisters ?xc_BadMany ?xr_BadMany ?xs_BadMany ?xe_BadMany ?xt_BadMany ?xk_BadMany ?xl_BadMany ?xa_BadMany ?xg_BadMany ?xd_BadMany ?xo_BadMany ?xm_BadMany ?xft_BadMany ?xfm_BadMany ?xfi_BadMany ?ii_BadMany ?it_BadMany ?il_BadMany ?ic_BadMany ?kb_BadMany ?ke_BadMany ?xc_BadEquation ?xr_BadEquation ?xs_BadEquation ?xe_BadEquation ?xt_BadEquation ?xk_BadEquation ?xl_BadEquation ?xa_BadEquation ?xg_BadEquation ?xd_BadEquation ?xo_BadEquation ?xm_BadEquation ?xft_BadEquation ?xfm_BadEquation ?xfi_BadEquation ?ii_BadEquation ?it_BadEquation ?il_BadEquation ?ic_BadEquation ?kb_BadEquation ?ke_BadEquation ?cg ?ct ?wn_SIZES ?wl_SIZES ?we_SIZES ?wb_SIZES
    (case a0 => k_is); (case l0 => k_is); (case c0 => k_is); (case k0 => k_is); (case a1 => k_is); (case l1 => k_is); (case c1 => k_is); (case k1 => k_is); (case a2 => k_is); (case l2 => k_is); (case c2 => k_is); (case k2 => k_is); (case a3 => k_is); (case l3 => k_is); (case c3 => k_is); (case k3 => k_is); (case a4 => k_is); (case l4 => k_is); (case c4 => k_is); (case k4 => k_is); (case a5 => k_is); (case l5 => k_is); (case c5 => k_is); (case k5 => k_is); (case a6 => k_is); (case l6 => k_is); (case c6 => k_is); (case k6 => k_is); (case a7 => k_is); (case l7 => k_is); (case c7 => k_is); (case k7 => k_is); (case a8 => k_is); (case l8 => k_is); (case c8 => k_is); (case k8 => k_is); (case a9 => k_is); (case l9 => k_is); (case c9 => k_is); (case k9 => k_is); (case a10 => k_is); (case l10 => k_is); (case c10 => k_is); (case k10 => k_is); (case a11 => k_is); (case l11 => k_is); (case c11 => k_is); (case k11 => k_is); (case a12 => k_is); (case l12 => k_is); (case c12 => k_is); (case k12 => k_is); (case a13 => k_is); (case l13 => k_is); (case c13 => k_is); (case k13 => k_is); (case a14 => k_is); (case l14 => k_is); (case c14 => k_is); (case k14 => k_is); (case a15 => k_is); (case l15 => k_is); (case c15 => k_is); (case k15 => k_is); (case a16 => k_is); (case l16 => k_is); (case c16 => k_is); (case k16 => k_is); (case a17 => k_is); (case l17 => k_is); (case c17 => k_is); (case k17 => k_is); (case a18 => k_is); (case l18 => k_is); (case c18 => k_is); (case k18 => k_is); (case a19 => k_is); (case l19 => k_is); (case c19 => k_is); (case k19 => k_is); (case a20 => k_is); (case l20 => k_is); (case c20 => k_is); (case k20 => k_is); (case a21 => k_is); (case l21 => k_is); (case c21 => k_is); (case k21 => k_is); (case a22 => k_is); (case l22 => k_is); (case c22 => k_is); (case k22 => k_is); (case a23 => k_is); (case l23 => k_is); (case c23 => k_is); (case k23 => k_is); (case a24 => k_is); (case l24 => k_is); (case c24 => k_is); (case k24 => k_is); (case a25 => k_is); (case l25 => k_is); (case c25 => k_is); (case k25 => k_is); (case pc => k_is); (case pv => exact rfl); (case pn => kernel_rfl); (case ph => kernel_rfl); (case z_all => k_is); (case z_bool => k_is); (case z_dict => k_is); (case z_int => k_is); (case z_isinstance => k_is); (case z_len => k_is); (case z_list => k_is); (case z_range => k_is); (case z_str => k_is); (case z_sum => k_is); (case z_tuple => k_is); (case z_zip => k_is); (case nc_BadCore => k_is); (case nc_BadInput => k_is); (case nc_BadSigns => k_is); (case nc_BadMany => k_is); (case nc_BadLevels => k_is); (case nc_BadSteps => k_is); (case nc_BadOpens => k_is); (case nc_BadCloses => k_is); (case nc_BadEnds => k_is); (case nc_BadLength => k_is); (case nc_BadEquation => k_is); (case nc_BadLevel => k_is); (case nc_BadRegisters => k_is); (case nc_BadKey => k_is); (case nc_BadRow => k_is); (case nc_BadInner => k_is); (case nc_BadBy => k_is); (case nc_BadSpace => k_is); (case nc_BadSecond => k_is); (case nc_BadSize => k_is); (case nc_BadPlace => k_is); (case nc_BadRows => k_is); (case nc_TooMany => k_is); (case nc_FoldedError => k_is); (case xc_BadRegisters => k_is); (case xr_BadRegisters => decide +kernel); (case xs_BadRegisters => k_is); (case xe_BadRegisters => k_is); (case xt_BadRegisters => k_is); (case xk_BadRegisters => k_is); (case xl_BadRegisters => kernel_rfl); (case xa_BadRegisters => k_is); (case xg_BadRegisters => k_is); (case xd_BadRegisters => k_is); (case xo_BadRegisters => k_is); (case xm_BadRegisters => k_is); (case xft_BadRegisters => k_is); (case xfm_BadRegisters => k_is); (case xfi_BadRegisters => k_is); (case ii_BadRegisters => k_is); (case it_BadRegisters => k_is); (case il_BadRegisters => k_is); (case ic_BadRegisters => k_is); (case kb_BadRegisters => kernel_rfl); (case ke_BadRegisters => kernel_rfl); (case xc_BadMany => k_is); (case xr_BadMany => decide +kernel); (case xs_BadMany => k_is); (case xe_BadMany => k_is); (case xt_BadMany => k_is); (case xk_BadMany => k_is); (case xl_BadMany => kernel_rfl); (case xa_BadMany => k_is); (case xg_BadMany => k_is); (case xd_BadMany => k_is); (case xo_BadMany => k_is); (case xm_BadMany => k_is); (case xft_BadMany => k_is); (case xfm_BadMany => k_is); (case xfi_BadMany => k_is); (case ii_BadMany => k_is); (case it_BadMany => k_is); (case il_BadMany => k_is); (case ic_BadMany => k_is); (case kb_BadMany => kernel_rfl); (case ke_BadMany => kernel_rfl); (case xc_BadEquation => k_is); (case xr_BadEquation => decide +kernel); (case xs_BadEquation => k_is); (case xe_BadEquation => k_is); (case xt_BadEquation => k_is); (case xk_BadEquation => k_is); (case xl_BadEquation => kernel_rfl); (case xa_BadEquation => k_is); (case xg_BadEquation => k_is); (case xd_BadEquation => k_is); (case xo_BadEquation => k_is); (case xm_BadEquation => k_is); (case xft_BadEquation => k_is); (case xfm_BadEquation => k_is); (case xfi_BadEquation => k_is); (case ii_BadEquation => k_is); (case it_BadEquation => k_is); (case il_BadEquation => k_is); (case ic_BadEquation => k_is); (case kb_BadEquation => kernel_rfl); (case ke_BadEquation => kernel_rfl); (case cg => k_is); (case ct => k_is); (case wn_SIZES => k_is); (case wl_SIZES => k_is); (case we_SIZES => kernel_rfl); (case wb_SIZES => decide +kernel)

