import PyProof.Rows.All
import Wide.All
import OpenK.AllK
import Wide.FinOn
import HandS.ForMost
import HandS.ForExc
import HandS.Iter
import KE.KDictKeyed
import HandS.Lambda
import HandS.TupAny
import HandS.TupMul
import HandS.Deep
import HandS.IsInst
import HandS.CallSlots
import HandS.Wide
import HandS.Flow
import HandS.Star
import HandS.Property
import HandS.More
import HandS.Style
import HandS.TupLen
import HandS.Conv
import PyProof.Rows.StrTemp
import HandS.Small
import HandS.Strs
import KE.KDictWalk
import KE.GoesEnum
import HandS.Zip
import HandS.DictComp
import KE.KDictDisplayH
import HandS.SortInts
import HandS.Defaults
import HandS.Exc
import HandS.ClsMeth
import HandS.TryOnly
import KE.KDictCopyH
import HandS.Nested
import KE.SortKeyHeap
import HandS.HeadHook4
import HandS.HeadWalk
import HandS.Head2
import HandS.MakeKw
import HandS.MakeKwOnly
import PySem.Challenge.RW_sliverhold_k45_known_all
set_option Elab.async false
set_option linter.all false
set_option maxRecDepth 100000
set_option maxHeartbeats 3999999
namespace SV
open PySem PySem.Spec
open PyProof.Rows L2

inductive IV where
  | non | bl (b : Bool) | int (i : Int) | str (x : Str) | tup (xs : List IV) | ref (i : Nat) | cls (c : Nat) | fn (f : Nat) | ty (t : Nat) | kd (k : Nat)

abbrev Fs := List (Nat × IV)
inductive IO where
  | lst (xs : List IV) | frz (xs : List IV) | dct (t : Bool) (kvs : List (IV × IV)) | fdc (t : Bool) (kvs : List (IV × IV)) | ins (c : Nat) (fs : Fs)

inductive Tr where
  | lf
  | nd (v : Option IO) (l r : Tr)
def Tr.get : Tr → Nat → Option IO
  | .lf, _ => none
  | .nd v l r, i => cond (Nat.beq i 0) v (cond (Nat.beq (i % 2) 1) (l.get (i / 2)) (r.get (i / 2 - 1)))
def Tr.root : Tr → Option IO
  | .lf => none
  | .nd v _ _ => v
def Tr.left : Tr → Tr
  | .lf => .lf
  | .nd _ l _ => l
def Tr.right : Tr → Tr
  | .lf => .lf
  | .nd _ _ r => r
def Tr.putF : Nat → Tr → Nat → IO → Tr
  | 0, t, _, o => .nd (some o) t.left t.right
  | k + 1, t, i, o => cond (Nat.beq i 0) (.nd (some o) t.left t.right)
      (cond (Nat.beq (i % 2) 1) (.nd t.root (putF k t.left (i / 2) o) t.right) (.nd t.root t.left (putF k t.right (i / 2 - 1) o)))
theorem beqD (a b : Nat) : Nat.beq a b = decide (a = b) := by
  by_cases h : a = b
  · subst h; simp
  · rw [decide_eq_false h]; exact Bool.eq_false_iff.mpr fun q => h (Nat.eq_of_beq_eq_true q)
theorem Tr.get_eq (t : Tr) (i : Nat) : t.get i = if i = 0 then t.root else if i % 2 = 1 then t.left.get (i / 2) else t.right.get (i / 2 - 1) := by
  cases t with
  | lf => simp [Tr.get, Tr.root, Tr.left, Tr.right]
  | nd v l r =>
    show cond (Nat.beq i 0) v (cond (Nat.beq (i % 2) 1) (l.get (i / 2)) (r.get (i / 2 - 1))) = if i = 0 then v else if i % 2 = 1 then l.get (i / 2) else r.get (i / 2 - 1)
    rw [beqD, beqD]
    by_cases h : i = 0 <;> by_cases q : i % 2 = 1 <;> simp [h, q]
theorem Tr.get_putF (o : IO) : ∀ (k : Nat) (t : Tr) (i j : Nat), i ≤ k → (Tr.putF k t i o).get j = if j = i then some o else t.get j
  | 0, t, i, j, h => by
    have e : i = 0 := by omega
    subst e
    rw [Tr.get_eq, Tr.get_eq t]
    unfold Tr.putF
    by_cases hj : j = 0 <;> simp [hj, Tr.root, Tr.left, Tr.right]
  | k + 1, t, i, j, h => by
    unfold Tr.putF
    rw [beqD, beqD]
    by_cases hi : i = 0
    · subst hi
      rw [decide_eq_true rfl]
      show Tr.get (.nd (some o) t.left t.right) j = _
      rw [Tr.get_eq, Tr.get_eq t]
      by_cases hj : j = 0 <;> simp [hj, Tr.root, Tr.left, Tr.right]
    · rw [decide_eq_false hi]
      by_cases hp : i % 2 = 1
      · rw [decide_eq_true hp]
        show Tr.get (.nd t.root (Tr.putF k t.left (i / 2) o) t.right) j = _
        rw [Tr.get_eq, Tr.get_eq t]
        by_cases hj : j = 0
        · have : ¬ j = i := by omega
          simp [hj, Tr.root, Ne.symm hi]
        · by_cases hq : j % 2 = 1
          · simp only [hj, hq, if_true, if_false, Tr.left]
            rw [Tr.get_putF o k _ _ _ (by omega)]
            by_cases e : j = i
            · subst e; simp
            · have : ¬ j / 2 = i / 2 := by omega
              simp [e, this]
          · have : ¬ j = i := by rintro rfl; exact hq hp
            simp [hj, hq, this, Tr.right]
      · rw [decide_eq_false hp]
        show Tr.get (.nd t.root t.left (Tr.putF k t.right (i / 2 - 1) o)) j = _
        rw [Tr.get_eq, Tr.get_eq t]
        by_cases hj : j = 0
        · have : ¬ j = i := by omega
          simp [hj, Tr.root, Ne.symm hi]
        · by_cases hq : j % 2 = 1
          · have : ¬ j = i := by rintro rfl; exact hp hq
            simp [hj, hq, this, Tr.left]
          · simp only [hj, hq, if_false, Tr.right]
            rw [Tr.get_putF o k _ _ _ (by omega)]
            by_cases e : j = i
            · subst e; simp
            · have : ¬ j / 2 - 1 = i / 2 - 1 := by omega
              simp [e, this]

structure IHeap where
  n : Nat
  t : Tr
def IHeap.get (h : IHeap) (i : Nat) : Option IO := h.t.get i
def IHeap.put (h : IHeap) (i : Nat) (o : IO) : IHeap := ⟨h.n, Tr.putF i h.t i o⟩
def IHeap.add (h : IHeap) (o : IO) : IHeap := ⟨h.n + 1, Tr.putF h.n h.t h.n o⟩
@[simp] theorem IHeap.get_put (h : IHeap) (i j : Nat) (o : IO) : (h.put i o).get j = if j = i then some o else h.get j := Tr.get_putF o _ _ _ _ (Nat.le_refl _)
@[simp] theorem IHeap.get_add (h : IHeap) (j : Nat) (o : IO) : (h.add o).get j = if j = h.n then some o else h.get j := Tr.get_putF o _ _ _ _ (Nat.le_refl _)
@[simp] theorem IHeap.n_put (h : IHeap) (i : Nat) (o : IO) : (h.put i o).n = h.n := rfl
@[simp] theorem IHeap.n_add (h : IHeap) (o : IO) : (h.add o).n = h.n + 1 := rfl
@[simp] theorem IHeap.put_n (h : IHeap) (i : Nat) (o : IO) : (h.put i o).n = h.n := rfl

/-- the result of an expression -/
inductive Res (α : Type) where
  | ok (a : α) (h : IHeap)
  | err (c : Nat) (fs : Fs) (h : IHeap)
  | bad
def Res.bind {α β : Type} (r : Res α) (k : α → IHeap → Res β) : Res β :=
  match r with
  | .ok a h => k a h
  | .err c fs h => .err c fs h
  | .bad => .bad
def Res.wp {α : Type} (r : Res α) (Qk : α → IHeap → Prop) (Qe : Nat → Fs → IHeap → Prop) : Prop :=
  match r with
  | .ok a h => Qk a h
  | .err c fs h => Qe c fs h
  | .bad => False
@[simp] theorem bind_ok {α β : Type} (a : α) (h : IHeap) (k : α → IHeap → Res β) : (Res.ok a h).bind k = k a h := rfl
@[simp] theorem bind_err {α β : Type} (c : Nat) (fs : Fs) (h : IHeap) (k : α → IHeap → Res β) : (Res.err c fs h : Res α).bind k = .err c fs h := rfl
@[simp] theorem bind_bad {α β : Type} (k : α → IHeap → Res β) : (Res.bad : Res α).bind k = .bad := rfl
theorem wp_bind {α β : Type} {r : Res α} {k : α → IHeap → Res β} {Qk : β → IHeap → Prop} {Qe : Nat → Fs → IHeap → Prop} (h : (r.bind k).wp Qk Qe) : r.wp (fun a h => (k a h).wp Qk Qe) Qe := by
  cases r <;> exact h
theorem wp_mono {α : Type} {r : Res α} {Qk Qk' : α → IHeap → Prop} {Qe Qe' : Nat → Fs → IHeap → Prop} (h : r.wp Qk Qe) (hk : ∀ a h, Qk a h → Qk' a h) (he : ∀ c fs h, Qe c fs h → Qe' c fs h) : r.wp Qk' Qe' := by
  cases r
  · exact hk _ _ h
  · exact he _ _ _ h
  · exact h

abbrev ISt := List (Option IV)
abbrev Sl := L2.St
abbrev Ev := ISt → IHeap → Res IV
abbrev EvT := ISt → IHeap → Res Bool
abbrev EvA := ISt → IHeap → Res (List IV)

/-! ### what stands for what -/
/-- the built-in types that have a number -/
def tagN (t : Nat) : String := match t with
  | 0 => "NoneType"
  | 1 => "bool"
  | 2 => "int"
  | 3 => "str"
  | 4 => "list"
  | 5 => "tuple"
  | _ => "dict"
structure Tab where
  K : PySem.W.Frag
  /-- field and method names -/
  nm : Nat → Str
  inj : ∀ i j, nm i = nm j → i = j
  /-- own classes -/
  ca : Nat → Addr
  /-- classes of exceptions, as values -/
  xc : Nat → Value
  /-- own defs -/
  fa : Nat → Addr
  /-- dicts of the module, texts to texts -/
  kd : Nat → Addr
  P : Program
  w : World
  /-- tables of code objects (defs that make lambdas) -/
  tb : List (Addr × Str)
/-! ### keys -/
def allSome {α : Type} : List (Option α) → Option (List α)
  | [] => some []
  | none :: _ => none
  | some a :: r => match allSome r with
    | none => none
    | some l => some (a :: l)
def nk : Nat → IV → Option NestedKey
  | 0, _ => none
  | k + 1, x => match x with
    | .non => some .none
    | .int i => some (.num i)
    | .str z => some (.text z)
    | .tup xs => (allSome (xs.map (nk k))).map .tup
    | _ => none
def keyIV : Key → IV
  | .inl i => .int i
  | .inr x => .str x
/-- a dict whose keys are nested tuples -/
def DnP (P : Program) (w : World) (a : Addr) (xs : List (NestedKey × Addr × V)) (h : Heap) : Prop :=
  ∃ (ws : List (NestedKey × Addr × Value)) (o : Obj) (es : Array DictEntry) (ep : Nat), Paired (fun (p : NestedKey × Addr × V) (q : NestedKey × Addr × Value) => p.1 = q.1 ∧ p.2.1 = q.2.1 ∧ RelV p.2.2 q.2.2) xs ws ∧
    xs.length ≤ sizeLine ∧ (a == sysModules) = false ∧ h.get? a = some o ∧ o.ExactDict ∧ o.data = .dict es ep ∧ es.toList = ws.map (entryOfKey (nestedKind P w)) ∧ (ws.map (·.1)).Nodup
def DnO (P : Program) (w : World) (a : Addr) (xs : List (NestedKey × Addr × V)) : HO := .ext (DnP P w a xs)
/-- a frozen list or tuple -/
def sqo : HO → Bool
  | .lst _ => true
  | .tup _ => true
  | _ => false

mutual
inductive RV (T : Tab) (ι : List Addr) (H : Hp) : IV → V → Prop where
  | non : RV T ι H .non .non
  | bl (b : Bool) : RV T ι H (.bl b) (.bl b)
  | int (i : Int) : RV T ι H (.int i) (.int i)
  | str (x : Str) : RV T ι H (.str x) (.str x)
  | tup {xs : List IV} {vs : List V} {a : Addr} (h : SqT T.K H a vs) (r : RVs T ι H xs vs) : RV T ι H (.tup xs) (.ref a)
  | ref {i : Nat} {a : Addr} (h : ι[i]? = some a) : RV T ι H (.ref i) (.ref a)
  | cls (c : Nat) : RV T ι H (.cls c) (.ref (T.ca c))
  | fn (f : Nat) : RV T ι H (.fn f) (.ref (T.fa f))
  | ty (t : Nat) : RV T ι H (.ty t) (.ty (tagN t))
  | kd (k : Nat) : RV T ι H (.kd k) (.ref (T.kd k))
inductive RVs (T : Tab) (ι : List Addr) (H : Hp) : List IV → List V → Prop where
  | nil : RVs T ι H [] []
  | cons {x : IV} {v : V} {xs : List IV} {vs : List V} (h : RV T ι H x v) (t : RVs T ι H xs vs) : RVs T ι H (x :: xs) (v :: vs)
end

/-- the tuples and what is frozen stay, addresses are added -/
structure Ext (ι : List Addr) (H : Hp) (ι' : List Addr) (H' : Hp) : Prop where
  pre : ι <+: ι'
  tup : ∀ a xs, H a = some (.tup xs) → H' a = some (.tup xs)
  frz : ∀ a o u, H a = some (.frz o u) → H' a = some (.frz o u)
  cod : ∀ a q, H a = some (LamX.CodeO a q) → H' a = some (LamX.CodeO a q)
/-- .. but for frozen dicts -/
structure ExtW (ι : List Addr) (H : Hp) (ι' : List Addr) (H' : Hp) : Prop where
  pre : ι <+: ι'
  tup : ∀ a xs, H a = some (.tup xs) → H' a = some (.tup xs)
  frz : ∀ a o u, sqo u = true → H a = some (.frz o u) → H' a = some (.frz o u)
theorem Ext.w {ι ι' : List Addr} {H H' : Hp} (e : Ext ι H ι' H') : ExtW ι H ι' H' := ⟨e.pre, e.tup, fun a o u _ h => e.frz a o u h⟩
theorem Ext.refl {ι : List Addr} {H : Hp} : Ext ι H ι H := ⟨List.prefix_rfl, fun _ _ h => h, fun _ _ _ h => h, fun _ _ h => h⟩
theorem Ext.trans {ι ι1 ι2 : List Addr} {H H1 H2 : Hp} (a : Ext ι H ι1 H1) (b : Ext ι1 H1 ι2 H2) : Ext ι H ι2 H2 :=
  ⟨a.pre.trans b.pre, fun c x h => b.tup c x (a.tup c x h), fun c o u h => b.frz c o u (a.frz c o u h), fun c q h => b.cod c q (a.cod c q h)⟩
theorem ExtW.at {ι ι' : List Addr} {H H' : Hp} (e : ExtW ι H ι' H') {i : Nat} {a : Addr} (h : ι[i]? = some a) : ι'[i]? = some a := by
  obtain ⟨t, rfl⟩ := e.pre
  rw [List.getElem?_append_left (List.getElem?_eq_some_iff.mp h).1]; exact h
theorem Ext.at {ι ι' : List Addr} {H H' : Hp} (e : Ext ι H ι' H') {i : Nat} {a : Addr} (h : ι[i]? = some a) : ι'[i]? = some a := e.w.at h
theorem ExtW.sqT {ι ι' : List Addr} {H H' : Hp} (e : ExtW ι H ι' H') {K : PySem.W.Frag} {a : Addr} {vs : List V} (h : SqT K H a vs) : SqT K H' a vs := by
  exact h.elim (fun r => .inl (r.elim (fun q => .inl (e.tup _ _ q)) fun ⟨o, q⟩ => .inr ⟨o, e.frz _ _ _ rfl q⟩)) .inr
theorem Ext.sqT {ι ι' : List Addr} {H H' : Hp} (e : Ext ι H ι' H') {K : PySem.W.Frag} {a : Addr} {vs : List V} (h : SqT K H a vs) : SqT K H' a vs := e.w.sqT h
section
variable {T : Tab} {ι ι' : List Addr} {H H' : Hp}
mutual
theorem RV.upW (e : ExtW ι H ι' H') : ∀ {x : IV} {v : V}, RV T ι H x v → RV T ι' H' x v
  | _, _, .non => .non
  | _, _, .bl b => .bl b
  | _, _, .int i => .int i
  | _, _, .str x => .str x
  | _, _, .tup h r => .tup (e.sqT h) (RVs.upW e r)
  | _, _, .ref h => .ref (e.at h)
  | _, _, .cls c => .cls c
  | _, _, .fn f => .fn f
  | _, _, .ty t => .ty t
  | _, _, .kd k => .kd k
theorem RVs.upW (e : ExtW ι H ι' H') : ∀ {xs : List IV} {vs : List V}, RVs T ι H xs vs → RVs T ι' H' xs vs
  | _, _, .nil => .nil
  | _, _, .cons h t => .cons (RV.upW e h) (RVs.upW e t)
end
theorem RV.up (e : Ext ι H ι' H') {x : IV} {v : V} (h : RV T ι H x v) : RV T ι' H' x v := h.upW e.w
theorem RVs.up (e : Ext ι H ι' H') {xs : List IV} {vs : List V} (h : RVs T ι H xs vs) : RVs T ι' H' xs vs := h.upW e.w
theorem RVs.length : ∀ {xs : List IV} {vs : List V}, RVs T ι H xs vs → xs.length = vs.length
  | _, _, .nil => rfl
  | _, _, .cons _ t => by simp [RVs.length t]
theorem RVs.get : ∀ {xs : List IV} {vs : List V} {i : Nat} {x : IV}, RVs T ι H xs vs → xs[i]? = some x → ∃ v, vs[i]? = some v ∧ RV T ι H x v
  | x0 :: xs, v0 :: vs, i, x, .cons r t, e => match i with
    | 0 => ⟨v0, rfl, Option.some.inj e ▸ r⟩
    | k + 1 => RVs.get (i := k) t e
theorem RVs.append : ∀ {xs ys : List IV} {us ws : List V}, RVs T ι H xs us → RVs T ι H ys ws → RVs T ι H (xs ++ ys) (us ++ ws)
  | _, _, _, _, .nil, s => s
  | _, _, _, _, .cons r t, s => .cons r (RVs.append t s)
theorem RVs.take : ∀ {xs : List IV} {us : List V} (n : Nat), RVs T ι H xs us → RVs T ι H (xs.take n) (us.take n)
  | _, _, 0, _ => .nil
  | _, _, _ + 1, .nil => .nil
  | _, _, n + 1, .cons r t => .cons r (RVs.take n t)
theorem RVs.drop : ∀ {xs : List IV} {us : List V} (n : Nat), RVs T ι H xs us → RVs T ι H (xs.drop n) (us.drop n)
  | _, _, 0, r => r
  | _, _, _ + 1, .nil => .nil
  | _, _, n + 1, .cons _ t => RVs.drop n t
theorem RVs.set {x : IV} {u : V} (r : RV T ι H x u) : ∀ {xs : List IV} {us : List V} (i : Nat), RVs T ι H xs us → RVs T ι H (xs.set i x) (us.set i u)
  | _, _, _, .nil => .nil
  | _, _, i, .cons q t => match i with
    | 0 => .cons r t
    | k + 1 => .cons q (RVs.set r k t)
end

/-- the fields of an instance, of an exception -/
inductive RFs (T : Tab) (ι : List Addr) (H : Hp) : Fs → List (Str × V) → Prop where
  | nil : RFs T ι H [] []
  | cons {f : Nat} {x : IV} {v : V} {xs : Fs} {vs : List (Str × V)} (h : RV T ι H x v) (t : RFs T ι H xs vs) : RFs T ι H ((f, x) :: xs) ((T.nm f, v) :: vs)
theorem RFs.upW {T : Tab} {ι ι' : List Addr} {H H' : Hp} (e : ExtW ι H ι' H') {xs : Fs} {vs : List (Str × V)} (h : RFs T ι H xs vs) : RFs T ι' H' xs vs := by
  induction h with
  | nil => exact .nil
  | cons h t ih => exact .cons (h.upW e) ih
theorem RFs.up {T : Tab} {ι ι' : List Addr} {H H' : Hp} (e : Ext ι H ι' H') {xs : Fs} {vs : List (Str × V)} (h : RFs T ι H xs vs) : RFs T ι' H' xs vs := h.upW e.w

/-- a dict's entries -/
def ORd (T : Tab) (ι : List Addr) (H : Hp) (t : Bool) (kvs : List (IV × IV)) (u : HO) (a : Addr) : Prop := match t with
  | false => ∃ ks, u = .dK ks ∧ Paired (fun (kv : IV × IV) (q : Key × V) => kv.1 = keyIV q.1 ∧ RV T ι H kv.2 q.2) kvs ks
  | true => ∃ xs, u = DnO T.P T.w a xs ∧ Paired (fun (kv : IV × IV) (x : NestedKey × Addr × V) => nk 8 kv.1 = some x.1 ∧ RV T ι H kv.1 (.ref x.2.1) ∧ RV T ι H kv.2 x.2.2) kvs xs
/-- an object -/
def OR (T : Tab) (ι : List Addr) (H : Hp) (o : IO) (a : Addr) : Prop :=
  match o with
  | .lst xs => ∃ vs, H a = some (.lst vs) ∧ RVs T ι H xs vs
  | .frz xs => ∃ vs, ((∃ ob, H a = some (.frz ob (.lst vs))) ∨ (SqL T.K (fun _ => none) a vs)) ∧ RVs T ι H xs vs
  | .dct t kvs => ∃ u, H a = some u ∧ ORd T ι H t kvs u a
  | .fdc t kvs => ∃ od u, H a = some (.frz od u) ∧ ORd T ι H t kvs u a
  | .ins c fs => ∃ dx fvs, H a = some (.ins (T.ca c) dx fvs) ∧ RFs T ι H fs fvs
def trk : IO → Bool
  | .frz _ => false
  | _ => true
structure Rel (T : Tab) (ι : List Addr) (hp : IHeap) (H : Hp) : Prop where
  len : ι.length = hp.n
  nd : ∀ i j oi oj a, hp.get i = some oi → hp.get j = some oj → trk oi = true → trk oj = true → ι[i]? = some a → ι[j]? = some a → i = j
  ob : ∀ i o, hp.get i = some o → ∃ a, ι[i]? = some a ∧ OR T ι H o a
  dom : ∀ i o, hp.get i = some o → i < hp.n
  tb : LamX.Tabs T.tb H
/-- the slots -/
structure RSt (T : Tab) (ι : List Addr) (H : Hp) (σi : ISt) (σ : Sl) : Prop where
  len : σi.length = σ.length
  get : ∀ (i : Nat) (x : IV), σi[i]? = some (some x) → ∃ v, σ[i]? = some (some v) ∧ RV T ι H x v
theorem RSt.upW {T : Tab} {ι ι' : List Addr} {H H' : Hp} {σi : ISt} {σ : Sl} (e : ExtW ι H ι' H') (h : RSt T ι H σi σ) : RSt T ι' H' σi σ :=
  ⟨h.len, fun i x q => let ⟨v, a, b⟩ := h.get i x q; ⟨v, a, b.upW e⟩⟩
theorem RSt.up {T : Tab} {ι ι' : List Addr} {H H' : Hp} {σi : ISt} {σ : Sl} (e : Ext ι H ι' H') (h : RSt T ι H σi σ) : RSt T ι' H' σi σ := h.upW e.w
/-- an exception's own dict -/
def XF (T : Tab) (ι : List Addr) (H : Hp) (fs : Fs) (d : Option Addr) : Prop :=
  match d with
  | none => fs = []
  | some dx => ∃ fvs, H dx = some (.xd fvs) ∧ RFs T ι H fs fvs

def DV (T : Tab) (ι : List Addr) (H : Hp) (Q : VK) : IV → IHeap → Prop := fun v hp => ∀ ι' H' V, Rel T ι' hp H' → Ext ι H ι' H' → RV T ι' H' v V → Q V H'
def DX (T : Tab) (ι : List Addr) (H : Hp) (W : WX) (σ : Sl) : Nat → Fs → IHeap → Prop := fun c fs hp => ∀ ι' H' d, Rel T ι' hp H' → Ext ι H ι' H' → XF T ι' H' fs d → W (T.xc c) d σ H'
def DB (T : Tab) (ι : List Addr) (H : Hp) (Q : Bool → Hp → Prop) : Bool → IHeap → Prop := fun b hp => ∀ ι' H', Rel T ι' hp H' → Ext ι H ι' H' → Q b H'
def DA (T : Tab) (ι : List Addr) (H : Hp) (Q : List V → Hp → Prop) : List IV → IHeap → Prop := fun vs hp => ∀ ι' H' Vs, Rel T ι' hp H' → Ext ι H ι' H' → RVs T ι' H' vs Vs → Q Vs H'

def tE (T : Tab) (W : WX) (f : Ev) : TE := fun σ H Q => ∃ ι hp σi, Rel T ι hp H ∧ RSt T ι H σi σ ∧ (f σi hp).wp (DV T ι H Q) (DX T ι H W σ)
def tT (T : Tab) (W : WX) (f : EvT) : TT := fun σ H Q => ∃ ι hp σi, Rel T ι hp H ∧ RSt T ι H σi σ ∧ (f σi hp).wp (DB T ι H Q) (DX T ι H W σ)
def tA (T : Tab) (W : WX) (f : EvA) : TA := fun σ H Q => ∃ ι hp σi, Rel T ι hp H ∧ RSt T ι H σi σ ∧ (f σi hp).wp (DA T ι H Q) (DX T ι H W σ)
def SE (T : Tab) (X : Cx) (e : Expr) (f : Ev) : Prop := ∀ W, Takes X W → PE X e (tE T W f)
def ST (T : Tab) (X : Cx) (e : Expr) (f : EvT) : Prop := ∀ W, Takes X W → PT X e (tT T W f)
def SA (T : Tab) (X : Cx) (es : List Expr) (f : EvA) : Prop := ∀ W, Takes X W → PA X es (tA T W f)

section
variable {T : Tab} {X : Cx} {W : WX} {pins : List (Addr × Obj)} {s : Shared} {σ : Sl} {σi : ISt} {ι : List Addr} {hp : IHeap} {H : Hp}
theorem DX.up {ι' : List Addr} {H' : Hp} {c : Nat} {fs : Fs} {hp : IHeap} (e : Ext ι H ι' H') (h : DX T ι H W σ c fs hp) : DX T ι' H' W σ c fs hp := fun _ _ d R e' x => h _ _ d R (e.trans e') x
theorem DV.up {ι' : List Addr} {H' : Hp} {Q : VK} {v : IV} {hp : IHeap} (e : Ext ι H ι' H') (h : DV T ι H Q v hp) : DV T ι' H' Q v hp := fun _ _ d R e' x => h _ _ d R (e.trans e') x
theorem DB.up {ι' : List Addr} {H' : Hp} {Q : Bool → Hp → Prop} {v : Bool} {hp : IHeap} (e : Ext ι H ι' H') (h : DB T ι H Q v hp) : DB T ι' H' Q v hp := fun _ _ R e' => h _ _ R (e.trans e')
theorem DA.up {ι' : List Addr} {H' : Hp} {Q : List V → Hp → Prop} {v : List IV} {hp : IHeap} (e : Ext ι H ι' H') (h : DA T ι H Q v hp) : DA T ι' H' Q v hp := fun _ _ d R e' x => h _ _ d R (e.trans e') x
theorem SE.go {e : Expr} {f : Ev} (h : SE T X e f) (tk : Takes X W) (I : Inv X pins σ H s) (R : Rel T ι hp H) (S : RSt T ι H σi σ) {k : IV → IHeap → Prop}
    (P : (f σi hp).wp k (DX T ι H W σ)) {Qf : Value → Shared → Prop} (cont : ∀ u s1 ι1 hp1 x V H1, Inv X pins σ H1 s1 → Rel T ι1 hp1 H1 → Ext ι H ι1 H1 → RSt T ι1 H1 σi σ → RV T ι1 H1 x V → RelV V u → k x hp1 → Qf u s1) :
    wpAny (model X.prog X.w) X.A (eval e X.env) Qf X.xe s := by
  refine thn ((h W tk).run pins s σ H (fun V H1 => ∃ ι1 hp1 x, Rel T ι1 hp1 H1 ∧ Ext ι H ι1 H1 ∧ RV T ι1 H1 x V ∧ k x hp1) I ⟨ι, hp, σi, R, S, wp_mono P (fun a h q ι' H' V R' e' r => ⟨ι', h, a, R', e', r, q⟩) fun _ _ _ z => z⟩) ?_
  rintro u s1 ⟨V, H1, I1, rv, ι1, hp1, x, R1, e1, r1, q1⟩
  exact cont u s1 ι1 hp1 x V H1 I1 R1 e1 (S.up e1) r1 rv q1
theorem ST.go {e : Expr} {f : EvT} (h : ST T X e f) (tk : Takes X W) (I : Inv X pins σ H s) (R : Rel T ι hp H) (S : RSt T ι H σi σ) {k : Bool → IHeap → Prop}
    (P : (f σi hp).wp k (DX T ι H W σ)) {Qf : Bool → Shared → Prop} (cont : ∀ b s1 ι1 hp1 H1, Inv X pins σ H1 s1 → Rel T ι1 hp1 H1 → Ext ι H ι1 H1 → RSt T ι1 H1 σi σ → k b hp1 → Qf b s1) :
    wpAny (model X.prog X.w) X.A (isTrue e X.env (eval e X.env)) Qf X.xe s := by
  refine thn ((h W tk).run pins s σ H (fun b H1 => ∃ ι1 hp1, Rel T ι1 hp1 H1 ∧ Ext ι H ι1 H1 ∧ k b hp1) I ⟨ι, hp, σi, R, S, wp_mono P (fun a h q ι' H' R' e' => ⟨ι', h, R', e', q⟩) fun _ _ _ z => z⟩) ?_
  rintro b s1 ⟨H1, I1, ι1, hp1, R1, e1, q1⟩
  exact cont b s1 ι1 hp1 H1 I1 R1 e1 (S.up e1) q1
theorem SA.go {es : List Expr} {f : EvA} {pos : Pos} (h : SA T X es f) (tk : Takes X W) (I : Inv X pins σ H s) (R : Rel T ι hp H) (S : RSt T ι H σi σ) {k : List IV → IHeap → Prop}
    (P : (f σi hp).wp k (DX T ι H W σ)) {Qf : List Value → Shared → Prop} (cont : ∀ us s1 ι1 hp1 xs Vs H1, Inv X pins σ H1 s1 → Rel T ι1 hp1 H1 → Ext ι H ι1 H1 → RSt T ι1 H1 σi σ → RVs T ι1 H1 xs Vs → Vals Vs us → k xs hp1 → Qf us s1) :
    wpAny (model X.prog X.w) X.A (spliced (backTo pos (starEach es X.env))) Qf X.xe s := by
  refine thn ((h W tk).run pos pins s σ H (fun Vs H1 => ∃ ι1 hp1 xs, Rel T ι1 hp1 H1 ∧ Ext ι H ι1 H1 ∧ RVs T ι1 H1 xs Vs ∧ k xs hp1) I ⟨ι, hp, σi, R, S, wp_mono P (fun a h q ι' H' V R' e' r => ⟨ι', h, a, R', e', r, q⟩) fun _ _ _ z => z⟩) ?_
  rintro us s1 ⟨Vs, H1, I1, rv, ι1, hp1, xs, R1, e1, r1, q1⟩
  exact cont us s1 ι1 hp1 xs Vs H1 I1 R1 e1 (S.up e1) r1 rv q1
end
end SV

namespace SV
open PySem PySem.Spec
open PyProof.Rows L2
section
variable {T : Tab} {X : Cx} {W : WX} {pins : List (Addr × Obj)} {s : Shared} {σ : Sl} {σi : ISt} {ι ι' : List Addr} {hp : IHeap} {H H' : Hp}
theorem _root_.L2.PE.imp {e : Expr} {t t' : TE} (h : PE X e t) (i : ∀ σ H Q, t' σ H Q → t σ H Q) : PE X e t' := ⟨fun pins s σ H Q I q => h.run pins s σ H Q I (i _ _ _ q)⟩
theorem _root_.L2.PT.imp {e : Expr} {t t' : TT} (h : PT X e t) (i : ∀ σ H Q, t' σ H Q → t σ H Q) : PT X e t' := ⟨fun pins s σ H Q I q => h.run pins s σ H Q I (i _ _ _ q)⟩
theorem _root_.L2.PW.imp {e : Expr} {t t' : TT} (h : PW X e t) (i : ∀ σ H Q, t' σ H Q → t σ H Q) : PW X e t' := ⟨fun wh pins s σ H Q I q => h.run wh pins s σ H Q I (i _ _ _ q)⟩
theorem _root_.L2.PA.imp {e : List Expr} {t t' : TA} (h : PA X e t) (i : ∀ σ H Q, t' σ H Q → t σ H Q) : PA X e t' := ⟨fun pos pins s σ H Q I q => h.run pos pins s σ H Q I (i _ _ _ q)⟩
theorem _root_.L2.PS.imp {e : Stmt} {t t' : TS} (h : PS X e t) (i : ∀ D σ H, t' D σ H → t D σ H) : PS X e t' := ⟨fun pins s σ H D I q => h.run pins s σ H D I (i _ _ _ q)⟩
theorem _root_.L2.PSs.imp {e : List Stmt} {t t' : TS} (h : PSs X e t) (i : ∀ D σ H, t' D σ H → t D σ H) : PSs X e t' := ⟨fun pins s σ H D I q => h.run pins s σ H D I (i _ _ _ q)⟩
theorem contE {f : Ev} {Q : VK} {hp' : IHeap} (R : Rel T ι' hp' H') (S : RSt T ι H σi σ) (e : Ext ι H ι' H') (q : (f σi hp').wp (DV T ι H Q) (DX T ι H W σ)) : tE T W f σ H' Q :=
  ⟨ι', hp', σi, R, S.up e, wp_mono q (fun _ _ => DV.up e) fun _ _ _ => DX.up e⟩
theorem contT {f : EvT} {Q : Bool → Hp → Prop} {hp' : IHeap} (R : Rel T ι' hp' H') (S : RSt T ι H σi σ) (e : Ext ι H ι' H') (q : (f σi hp').wp (DB T ι H Q) (DX T ι H W σ)) : tT T W f σ H' Q :=
  ⟨ι', hp', σi, R, S.up e, wp_mono q (fun _ _ => DB.up e) fun _ _ _ => DX.up e⟩
theorem contA {f : EvA} {Q : List V → Hp → Prop} {hp' : IHeap} (R : Rel T ι' hp' H') (S : RSt T ι H σi σ) (e : Ext ι H ι' H') (q : (f σi hp').wp (DA T ι H Q) (DX T ι H W σ)) : tA T W f σ H' Q :=
  ⟨ι', hp', σi, R, S.up e, wp_mono q (fun _ _ => DA.up e) fun _ _ _ => DX.up e⟩

/-! ### the heap grows, an object is stored -/
theorem ORd.upW {t : Bool} {kvs : List (IV × IV)} {u : HO} {a : Addr} (e : ExtW ι H ι' H') (h : ORd T ι H t kvs u a) : ORd T ι' H' t kvs u a := by
  cases t with
  | false => obtain ⟨ks, h1, h2⟩ := h; exact ⟨ks, h1, Paired.mapP h2 fun _ _ q => ⟨q.1, q.2.upW e⟩⟩
  | true => obtain ⟨ks, h1, h2⟩ := h; exact ⟨ks, h1, Paired.mapP h2 fun _ _ q => ⟨q.1, q.2.1.upW e, q.2.2.upW e⟩⟩
theorem ORd.up {t : Bool} {kvs : List (IV × IV)} {u : HO} {a : Addr} (e : Ext ι H ι' H') (h : ORd T ι H t kvs u a) : ORd T ι' H' t kvs u a := h.upW e.w
theorem OR.upW {o : IO} {a : Addr} (e : ExtW ι H ι' H') (h : OR T ι H o a) (k : trk o = true → H' a = H a) : OR T ι' H' o a := by
  cases o with
  | lst xs => obtain ⟨vs, h1, h2⟩ := h; exact ⟨vs, (k rfl).trans h1, h2.upW e⟩
  | frz xs =>
    obtain ⟨vs, h1, h2⟩ := h
    refine ⟨vs, ?_, h2.upW e⟩
    rcases h1 with ⟨ob, h1⟩ | h1
    · exact .inl ⟨ob, e.frz _ _ _ rfl h1⟩
    · exact .inr h1
  | dct t kvs => obtain ⟨u, h1, h2⟩ := h; exact ⟨u, (k rfl).trans h1, h2.upW e⟩
  | fdc t kvs => obtain ⟨od, u, h1, h2⟩ := h; exact ⟨od, u, (k rfl).trans h1, h2.upW e⟩
  | ins c fs => obtain ⟨dx, fvs, h1, h2⟩ := h; exact ⟨dx, fvs, (k rfl).trans h1, h2.upW e⟩
theorem OR.up {o : IO} {a : Addr} (e : Ext ι H ι' H') (h : OR T ι H o a) (k : trk o = true → H' a = H a) : OR T ι' H' o a := h.upW e.w k
theorem OR.some {o : IO} {a : Addr} (h : OR T ι H o a) (k : trk o = true) : ∃ u, H a = some u := by
  cases o with
  | lst xs => obtain ⟨vs, h1, _⟩ := h; exact ⟨_, h1⟩
  | frz xs => cases k
  | dct t kvs => obtain ⟨u, h1, _⟩ := h; exact ⟨_, h1⟩
  | fdc t kvs => obtain ⟨od, u, h1, _⟩ := h; exact ⟨_, h1⟩
  | ins c fs => obtain ⟨dx, fvs, h1, _⟩ := h; exact ⟨_, h1⟩
theorem RVs.one {x : IV} {Vs : List V} (h : RVs T ι H [x] Vs) : ∃ v, Vs = [v] ∧ RV T ι H x v := by
  cases h with
  | cons h t => cases t; exact ⟨_, rfl, h⟩
theorem RVs.two {x y : IV} {Vs : List V} (h : RVs T ι H [x, y] Vs) : ∃ v w, Vs = [v, w] ∧ RV T ι H x v ∧ RV T ι H y w := by
  cases h with
  | cons h t =>
    obtain ⟨w, rfl, r⟩ := RVs.one t
    exact ⟨_, _, rfl, h, r⟩

/-- a new object at p; the abstract heap may have grown by more (an instance's own dict) -/
theorem Rel.add {o : IO} {p : Addr} (R : Rel T ι hp H) (e : Ext ι H (ι ++ [p]) H') (hn : H p = none) (hk : ∀ a u, H a = some u → H' a = some u) (ho : OR T (ι ++ [p]) H' o p) : Rel T (ι ++ [p]) (hp.add o) H' := by
  have lp : ∀ {i : Nat} {a : Addr}, (ι ++ [p])[i]? = some a → i ≠ hp.n → ι[i]? = some a := fun {i a} q ne => by
    by_cases h : i < ι.length
    · rwa [List.getElem?_append_left h] at q
    · rw [List.getElem?_append_right (by omega)] at q
      have := (List.getElem?_eq_some_iff.mp q).1
      have := R.len
      simp only [List.length_singleton] at *
      omega
  have last : (ι ++ [p])[hp.n]? = some p := by rw [← R.len]; simp
  refine ⟨by rw [List.length_append, R.len]; rfl, fun i j oi oj a hi hj ti tj ai aj => ?_, fun i u hi => ?_, fun i u hi => ?_, R.tb.ext hk⟩
  · rw [IHeap.get_add] at hi hj
    by_cases ni : i = hp.n
    · by_cases nj : j = hp.n
      · rw [ni, nj]
      · rw [if_neg nj] at hj
        rw [ni, last] at ai
        cases ai
        obtain ⟨b, hb, ob⟩ := R.ob j oj hj
        obtain rfl : b = p := Option.some.inj (hb.symm.trans (lp aj nj))
        obtain ⟨u, hu⟩ := ob.some tj
        rw [hn] at hu; cases hu
    · rw [if_neg ni] at hi
      by_cases nj : j = hp.n
      · rw [nj, last] at aj
        cases aj
        obtain ⟨b, hb, ob⟩ := R.ob i oi hi
        obtain rfl : b = p := Option.some.inj (hb.symm.trans (lp ai ni))
        obtain ⟨u, hu⟩ := ob.some ti
        rw [hn] at hu; cases hu
      · rw [if_neg nj] at hj
        exact R.nd i j oi oj a hi hj ti tj (lp ai ni) (lp aj nj)
  · rw [IHeap.get_add] at hi
    by_cases ni : i = hp.n
    · rw [if_pos ni] at hi; cases hi
      rw [ni]; exact ⟨p, last, ho⟩
    · rw [if_neg ni] at hi
      obtain ⟨a, h1, h2⟩ := R.ob i u hi
      refine ⟨a, e.at h1, h2.up e fun k => ?_⟩
      obtain ⟨w, hw⟩ := h2.some k
      rw [hk a w hw, hw]
  · rw [IHeap.get_add] at hi
    show i < hp.n + 1
    by_cases ni : i = hp.n
    · omega
    · rw [if_neg ni] at hi
      have := R.dom i u hi; omega
/-! no tracked object is a table, or a code object -/
theorem dnO_ne {P : Program} {w : World} {a : Addr} {q : Str} {xs : List (NestedKey × Addr × V)} : DnO P w a xs ≠ LamX.CodeO a q := fun z => by
  have e : DnP P w a xs = _ := HO.ext.inj z
  have c : (⟨(List.replicate a (default : Obj)).toArray.push { cls := .none, data := .fields #[.none, .str q 0] }, {}⟩ : Heap).get? a = some { cls := .none, data := .fields #[.none, .str q 0] } := by
    unfold Heap.get?
    have h2 : ((List.replicate a (default : Obj)).toArray.push { cls := .none, data := .fields #[.none, .str q 0] })[a]? = some ({ cls := .none, data := .fields #[.none, .str q 0] } : Obj) := by
      have := Array.getElem?_push_size (xs := (List.replicate a (default : Obj)).toArray) (x := ({ cls := .none, data := .fields #[.none, .str q 0] } : Obj))
      rw [show (List.replicate a (default : Obj)).toArray.size = a from by simp] at this
      exact this
    show (match ((List.replicate a (default : Obj)).toArray.push { cls := .none, data := .fields #[.none, .str q 0] })[a]? with
      | some ⟨_, _, .freed, _⟩ => none | o => o) = _
    rw [h2]
  have h := (congrFun e _).mpr ⟨_, _, 0, c, rfl, rfl⟩
  obtain ⟨_, o, es, ep, _, _, _, h1, _, h2, _⟩ := h
  rw [c] at h1
  rw [← Option.some.inj h1] at h2
  cases h2
theorem or_apart {o : IO} {a : Addr} (h : OR T ι H o a) (k : trk o = true) : (∀ ps, H a ≠ some (.tbl ps)) ∧ ∀ q, H a ≠ some (LamX.CodeO a q) := by
  cases o with
  | lst xs => obtain ⟨vs, h1, _⟩ := h; rw [h1]; exact ⟨(fun ps z => nomatch z), fun q z => by unfold LamX.CodeO at z; cases z⟩
  | frz xs => cases k
  | dct t kvs =>
    obtain ⟨u, h1, h2⟩ := h
    rw [h1]
    cases t with
    | false => obtain ⟨ks, rfl, _⟩ := h2; exact ⟨(fun ps z => nomatch z), fun q z => by unfold LamX.CodeO at z; cases z⟩
    | true => obtain ⟨ks, rfl, _⟩ := h2; exact ⟨(fun ps z => nomatch z), fun q z => dnO_ne (Option.some.inj z)⟩
  | fdc t kvs => obtain ⟨od, u, h1, _⟩ := h; rw [h1]; exact ⟨(fun ps z => nomatch z), fun q z => by unfold LamX.CodeO at z; cases z⟩
  | ins c fs => obtain ⟨dx, fvs, h1, _⟩ := h; rw [h1]; exact ⟨(fun ps z => nomatch z), fun q z => by unfold LamX.CodeO at z; cases z⟩
theorem tabs_upd {tb : List (Addr × Str)} {a : Addr} {u : HO} (t : LamX.Tabs tb H) (h : (∀ ps, H a ≠ some (.tbl ps)) ∧ ∀ q, H a ≠ some (LamX.CodeO a q)) : LamX.Tabs tb (upd H a u) := fun p hp => by
  obtain ⟨ps, h1, h2, h3⟩ := t p hp
  refine ⟨ps, ?_, h2, fun pos cv hc => ?_⟩
  · rw [upd_ne fun z => h.1 ps (by rw [← z]; exact h1)]; exact h1
  · obtain ⟨c, e1, e2⟩ := h3 pos cv hc
    refine ⟨c, e1, ?_⟩
    rw [upd_ne fun z => h.2 p.2 (by rw [← z]; exact e2)]; exact e2
/-- an object stored -/
theorem Rel.putW {o o' : IO} {i : Nat} {a : Addr} {u : HO} (R : Rel T ι hp H) (hi : hp.get i = some o) (ti : trk o = true) (ha : ι[i]? = some a) (e : ExtW ι H ι (upd H a u)) (t' : trk o' = true) (ho : OR T ι (upd H a u) o' a) : Rel T ι (hp.put i o') (upd H a u) := by
  have ap : (∀ ps, H a ≠ some (.tbl ps)) ∧ ∀ q, H a ≠ some (LamX.CodeO a q) := by
    obtain ⟨b, hb, ob⟩ := R.ob i o hi
    rw [ha] at hb
    rw [Option.some.inj hb]
    exact or_apart ob ti
  refine ⟨R.len, fun j k oj ok b hj hk tj tk aj ak => ?_, fun j w hj => ?_, fun j w hj => ?_, tabs_upd R.tb ap⟩
  · rw [IHeap.get_put] at hj hk
    have hj' : ∃ oj', hp.get j = some oj' ∧ trk oj' = true := by
      by_cases nj : j = i
      · subst nj; exact ⟨o, hi, ti⟩
      · rw [if_neg nj] at hj; exact ⟨oj, hj, tj⟩
    have hk' : ∃ ok', hp.get k = some ok' ∧ trk ok' = true := by
      by_cases nk : k = i
      · subst nk; exact ⟨o, hi, ti⟩
      · rw [if_neg nk] at hk; exact ⟨ok, hk, tk⟩
    obtain ⟨oj', h1, t1⟩ := hj'
    obtain ⟨ok', h2, t2⟩ := hk'
    exact R.nd j k oj' ok' b h1 h2 t1 t2 aj ak
  · rw [IHeap.get_put] at hj
    by_cases nj : j = i
    · rw [if_pos nj] at hj; cases hj
      rw [nj]; exact ⟨a, ha, ho⟩
    · rw [if_neg nj] at hj
      obtain ⟨b, h1, h2⟩ := R.ob j w hj
      refine ⟨b, h1, h2.upW e fun k => upd_ne fun q => nj ?_⟩
      subst q
      exact R.nd j i w o b hj hi k ti h1 ha
  · rw [IHeap.get_put] at hj
    by_cases nj : j = i
    · rw [nj]; exact R.dom i o hi
    · rw [if_neg nj] at hj; exact R.dom j w hj
theorem Rel.put {o o' : IO} {i : Nat} {a : Addr} {u : HO} (R : Rel T ι hp H) (hi : hp.get i = some o) (ti : trk o = true) (ha : ι[i]? = some a) (e : Ext ι H ι (upd H a u)) (t' : trk o' = true) (ho : OR T ι (upd H a u) o' a) : Rel T ι (hp.put i o') (upd H a u) := R.putW hi ti ha e.w t' ho
theorem Ext.new {p : Addr} {u : HO} (h : H p = none) : Ext ι H (ι ++ [p]) (upd H p u) :=
  ⟨List.prefix_append _ _, fun a xs q => by rw [upd_ne (ne_of_none q h)]; exact q, fun a o w q => by rw [upd_ne (ne_of_none q h)]; exact q, fun a n q => by rw [upd_ne (ne_of_none q h)]; exact q⟩
theorem Ext.new0 {p : Addr} {u : HO} (h : H p = none) : Ext ι H ι (upd H p u) :=
  ⟨List.prefix_rfl, fun a xs q => by rw [upd_ne (ne_of_none q h)]; exact q, fun a o w q => by rw [upd_ne (ne_of_none q h)]; exact q, fun a n q => by rw [upd_ne (ne_of_none q h)]; exact q⟩
theorem ExtW.wr {a : Addr} {u w : HO} (h : H a = some w) (h1 : ∀ xs, w ≠ .tup xs) (h2 : ∀ o v, sqo v = true → w ≠ .frz o v) : ExtW ι H ι (upd H a u) :=
  ⟨List.prefix_rfl, fun b xs q => by rw [upd_ne fun z => h1 xs (by subst z; rw [h] at q; exact Option.some.inj q)]; exact q,
    fun b o v z q => by rw [upd_ne fun y => h2 o v z (by subst y; rw [h] at q; exact Option.some.inj q)]; exact q⟩
theorem Ext.wr {a : Addr} {u w : HO} (h : H a = some w) (h1 : ∀ xs, w ≠ .tup xs) (h2 : ∀ o v, w ≠ .frz o v) (h3 : ∀ q, w ≠ LamX.CodeO a q := by first | (intro q z; unfold LamX.CodeO at z; cases z; done) | exact fun q z => dnO_ne z) : Ext ι H ι (upd H a u) :=
  ⟨List.prefix_rfl, fun b xs q => by rw [upd_ne fun z => h1 xs (by subst z; rw [h] at q; exact Option.some.inj q)]; exact q,
    fun b o v q => by rw [upd_ne fun z => h2 o v (by subst z; rw [h] at q; exact Option.some.inj q)]; exact q,
    fun b n q => by rw [upd_ne fun z => h3 n (by subst z; rw [h] at q; exact Option.some.inj q)]; exact q⟩
/-- only the abstract heap grows (a tuple) -/
theorem Rel.grow (R : Rel T ι hp H) (e : Ext ι H ι H') (hk : ∀ a u, H a = some u → H' a = some u) : Rel T ι hp H' :=
  ⟨R.len, R.nd, fun i o hi => let ⟨a, h1, h2⟩ := R.ob i o hi; ⟨a, h1, h2.up e fun k => let ⟨w, hw⟩ := h2.some k; by rw [hk a w hw, hw]⟩, R.dom, R.tb.ext hk⟩
theorem keep_new {p : Addr} {u : HO} (h : H p = none) : ∀ a w, H a = some w → upd H p u a = some w := fun a w q => by rw [upd_ne (ne_of_none q h)]; exact q
theorem Rel.newLst {xs : List IV} {vs : List V} {p : Addr} (R : Rel T ι hp H) (hn : H p = none) (r : RVs T ι H xs vs) :
    Rel T (ι ++ [p]) (hp.add (.lst xs)) (upd H p (.lst vs)) ∧ Ext ι H (ι ++ [p]) (upd H p (.lst vs)) ∧ RV T (ι ++ [p]) (upd H p (.lst vs)) (.ref hp.n) (.ref p) := by
  have e : Ext ι H (ι ++ [p]) (upd H p (.lst vs)) := Ext.new hn
  exact ⟨R.add e hn (keep_new hn) ⟨vs, upd_same, r.up e⟩, e, .ref (by rw [← R.len]; simp)⟩
theorem Rel.newTup {xs : List IV} {vs : List V} {p : Addr} (R : Rel T ι hp H) (hn : H p = none) (r : RVs T ι H xs vs) :
    Rel T ι hp (upd H p (.tup vs)) ∧ Ext ι H ι (upd H p (.tup vs)) ∧ RV T ι (upd H p (.tup vs)) (.tup xs) (.ref p) := by
  have e : Ext ι H ι (upd H p (.tup vs)) := Ext.new0 hn
  exact ⟨R.grow e (keep_new hn), e, .tup (SqT.of upd_same) (r.up e)⟩
/-- what stands at an object -/
theorem Rel.at {i : Nat} {o : IO} {V : V} (R : Rel T ι hp H) (hi : hp.get i = some o) (r : RV T ι H (.ref i) V) : ∃ a, V = .ref a ∧ ι[i]? = some a ∧ OR T ι H o a := by
  cases r with
  | ref h =>
    obtain ⟨b, h1, h2⟩ := R.ob i o hi
    obtain rfl := Option.some.inj (h.symm.trans h1)
    exact ⟨_, rfl, h, h2⟩
end
end SV
set_option maxHeartbeats 3999999
namespace SV
open PySem PySem.Spec
open PyProof.Rows L2

/-! ### operators by values -/
def OpS (T : Tab) (X : Cx) (f : Value → Value → Sem Value) (g : IV → IV → IHeap → Res IV) : Prop :=
  ∀ (W : WX), Takes X W → ∀ (pins : List (Addr × Obj)) (s : Shared) (σ : Sl) (H : Hp) (x y : V) (v u : Value) (Q : VK) (ι : List Addr) (hp : IHeap) (xi yi : IV), Inv X pins σ H s → RelV x v → RelV y u → Rel T ι hp H →
    RV T ι H xi x → RV T ι H yi y → (g xi yi hp).wp (DV T ι H Q) (DX T ι H W σ) → wpAny (model X.prog X.w) X.A (f v u) (EP X pins σ Q) X.xe s
def UnS (T : Tab) (X : Cx) (f : Value → Sem Value) (g : IV → IHeap → Res IV) : Prop :=
  ∀ (W : WX), Takes X W → ∀ (pins : List (Addr × Obj)) (s : Shared) (σ : Sl) (H : Hp) (x : V) (v : Value) (Q : VK) (ι : List Addr) (hp : IHeap) (xi : IV), Inv X pins σ H s → RelV x v → Rel T ι hp H →
    RV T ι H xi x → (g xi hp).wp (DV T ι H Q) (DX T ι H W σ) → wpAny (model X.prog X.w) X.A (f v) (EP X pins σ Q) X.xe s
def CallS (T : Tab) (X : Cx) (f : Value) (g : List IV → IHeap → Res IV) : Prop :=
  ∀ (W : WX), Takes X W → ∀ (pins : List (Addr × Obj)) (s : Shared) (σ : Sl) (H : Hp) (xs : List V) (us : List Value) (Q : VK) (ι : List Addr) (hp : IHeap) (is : List IV), Inv X pins σ H s → Vals xs us → Rel T ι hp H →
    RVs T ι H is xs → (g is hp).wp (DV T ι H Q) (DX T ι H W σ) → wpAny (model X.prog X.w) X.A (call f us) (EP X pins σ Q) X.xe s

def okIf (c : Bool) (v : IV) (h : IHeap) : Res IV := cond c (.ok v h) .bad
theorem okIf_wp {c : Bool} {v : IV} {h : IHeap} {Qk : IV → IHeap → Prop} {Qe : Nat → Fs → IHeap → Prop} (p : (okIf c v h).wp Qk Qe) : c = true ∧ Qk v h := by
  cases c
  · exact p.elim
  · exact ⟨rfl, p⟩
/-- a new list -/
def mkL (xs : List IV) (h : IHeap) : Res IV := cond (Nat.ble xs.length sizeLine) (.ok (.ref h.n) (h.add (.lst xs))) .bad
theorem mkL_wp {xs : List IV} {h : IHeap} {Qk : IV → IHeap → Prop} {Qe : Nat → Fs → IHeap → Prop} (p : (mkL xs h).wp Qk Qe) : xs.length ≤ sizeLine ∧ Qk (.ref h.n) (h.add (.lst xs)) := by
  unfold mkL at p
  cases q : Nat.ble xs.length sizeLine
  · rw [q] at p; exact p.elim
  · rw [q] at p; exact ⟨Nat.le_of_ble_eq_true q, p⟩
def mkT (xs : List IV) (h : IHeap) : Res IV := cond (Nat.ble xs.length sizeLine) (.ok (.tup xs) h) .bad
theorem mkT_wp {xs : List IV} {h : IHeap} {Qk : IV → IHeap → Prop} {Qe : Nat → Fs → IHeap → Prop} (p : (mkT xs h).wp Qk Qe) : xs.length ≤ sizeLine ∧ Qk (.tup xs) h := by
  unfold mkT at p
  cases q : Nat.ble xs.length sizeLine
  · rw [q] at p; exact p.elim
  · rw [q] at p; exact ⟨Nat.le_of_ble_eq_true q, p⟩

section
variable {T : Tab} {X : Cx} {ι : List Addr} {hp : IHeap} {H : Hp} {Q : VK}
theorem DV.lst {xs : List IV} {vs : List V} (d : DV T ι H Q (.ref hp.n) (hp.add (.lst xs))) (R : Rel T ι hp H) (r : RVs T ι H xs vs) : ∀ p, H p = none → Q (.ref p) (upd H p (.lst vs)) := fun p hn =>
  let ⟨R', e, rv⟩ := R.newLst hn r
  d _ _ _ R' e rv
theorem DV.tup {xs : List IV} {vs : List V} (d : DV T ι H Q (.tup xs) hp) (R : Rel T ι hp H) (r : RVs T ι H xs vs) : ∀ p, H p = none → Q (.ref p) (upd H p (.tup vs)) := fun p hn =>
  let ⟨R', e, rv⟩ := R.newTup hn r
  d _ _ _ R' e rv
theorem DV.val {x : IV} {v : V} (d : DV T ι H Q x hp) (R : Rel T ι hp H) (r : RV T ι H x v) : Q v H := d _ _ _ R .refl r
/-- the list that an object is -/
theorem Rel.lst {i : Nat} {xs : List IV} {V : V} (R : Rel T ι hp H) (hi : hp.get i = some (.lst xs)) (r : RV T ι H (.ref i) V) : ∃ a vs, V = .ref a ∧ ι[i]? = some a ∧ H a = some (.lst vs) ∧ RVs T ι H xs vs := by
  obtain ⟨a, rfl, h1, vs, h2, h3⟩ := R.at hi r
  exact ⟨a, vs, rfl, h1, h2, h3⟩
theorem Rel.ins {i c : Nat} {fs : Fs} {V : V} (R : Rel T ι hp H) (hi : hp.get i = some (.ins c fs)) (r : RV T ι H (.ref i) V) : ∃ a dx fvs, V = .ref a ∧ ι[i]? = some a ∧ H a = some (.ins (T.ca c) dx fvs) ∧ RFs T ι H fs fvs := by
  obtain ⟨a, rfl, h1, dx, fvs, h2, h3⟩ := R.at hi r
  exact ⟨a, dx, fvs, rfl, h1, h2, h3⟩
/-- the items of a list that may be read -/
def IHeap.items (h : IHeap) (i : Nat) : Option (List IV) := match h.get i with
  | some (.lst xs) => some xs
  | some (.frz xs) => some xs
  | _ => none
theorem SqL.none {K : PySem.W.Frag} {a : Addr} {vs : List V} (h : SqL K (fun _ => Option.none) a vs) : SqL K H a vs := by
  exact h.elim (fun r => r.elim (fun q => nomatch q) fun ⟨_, q⟩ => nomatch q) .inr
theorem Rel.seq {i : Nat} {xs : List IV} {V : V} (R : Rel T ι hp H) (hi : hp.items i = some xs) (r : RV T ι H (.ref i) V) : ∃ a vs, V = .ref a ∧ ι[i]? = some a ∧ SqL T.K H a vs ∧ RVs T ι H xs vs := by
  unfold IHeap.items at hi
  split at hi
  · rename_i ys e
    cases hi
    obtain ⟨a, vs, rfl, h1, h2, h3⟩ := R.lst e r
    exact ⟨a, vs, rfl, h1, SqL.of h2, h3⟩
  · rename_i ys e
    cases hi
    obtain ⟨a, rfl, h1, vs, h2, h3⟩ := R.at e r
    refine ⟨a, vs, rfl, h1, ?_, h3⟩
    rcases h2 with ⟨ob, h2⟩ | h2
    · exact .inl (.inr ⟨ob, h2⟩)
    · exact SqL.none h2
  · cases hi
end

/-! #### + -/
def ivAdd (x y : IV) (h : IHeap) : Res IV := match x, y with
  | .int i, .int j => .ok (.int (i + j)) h
  | .str a, .str b => okIf (Nat.ble (a.length + b.length) sizeLine) (.str (a ++ b)) h
  | .tup a, .tup b => mkT (a ++ b) h
  | .ref i, .ref j => match h.get i, h.get j with
    | some (.lst a), some (.lst b) => mkL (a ++ b) h
    | _, _ => .bad
  | _, _ => .bad
section
variable {T : Tab} {X : Cx}
theorem os_add (hK : X.K = T.K) : OpS T X (binaryOp .Add) ivAdd := by
  intro W tk pins s σ H x y v u Q ι hp xi yi I rx ry R rxi ryi P
  unfold ivAdd at P
  split at P
  · cases rxi; cases ryi
    exact L2.op_add pins s σ H _ _ v u Q I rx ry ⟨_, _, rfl, rfl, DV.val P R (.int _)⟩
  · cases rxi; cases ryi
    obtain ⟨z, P⟩ := okIf_wp P
    exact L2.op_add_str pins s σ H _ _ v u Q I rx ry ⟨_, _, rfl, rfl, Nat.le_of_ble_eq_true z, DV.val P R (.str _)⟩
  · obtain ⟨z, P⟩ := mkT_wp P
    cases rxi with
    | tup h1 r1 =>
      cases ryi with
      | tup h2 r2 =>
        rw [List.length_append, r1.length, r2.length] at z
        refine L2.op_catA pins s σ H _ _ v u Q I rx ry ⟨_, _, _, _, rfl, rfl, hK ▸ h1, hK ▸ h2, z, fun e => ?_, fun _ e => ?_, fun _ _ => DV.tup P R (r1.append r2)⟩
        · subst e
          cases r1
          exact DV.val P R (.tup h2 r2)
        · subst e
          cases r2
          rw [List.append_nil] at P
          exact DV.val P R (.tup h1 r1)
  · split at P
    · rename_i h1 h2
      obtain ⟨z, P⟩ := mkL_wp P
      obtain ⟨a, vs, rfl, _, ha, r1⟩ := R.lst h1 rxi
      obtain ⟨b, ws, rfl, _, hb, r2⟩ := R.lst h2 ryi
      rw [List.length_append, r1.length, r2.length] at z
      exact L2.op_cat pins s σ H _ _ v u Q I rx ry ⟨_, _, _, _, rfl, rfl, ha, hb, z, DV.lst P R (r1.append r2)⟩
    · exact P.elim
  · exact P.elim

/-! #### ints -/
def ivSub (x y : IV) (h : IHeap) : Res IV := match x, y with
  | .int i, .int j => .ok (.int (i - j)) h
  | _, _ => .bad
theorem os_sub : OpS T X (binaryOp .Sub) ivSub := by
  intro W tk pins s σ H x y v u Q ι hp xi yi I rx ry R rxi ryi P
  unfold ivSub at P
  split at P
  · cases rxi; cases ryi
    exact L2.op_sub pins s σ H _ _ v u Q I rx ry ⟨_, _, rfl, rfl, DV.val P R (.int _)⟩
  · exact P.elim
def ivDiv (x y : IV) (h : IHeap) : Res IV := match x, y with
  | .int i, .int j => okIf (decide (0 < j) && decide (j < 1073741824)) (.int (i / j)) h
  | _, _ => .bad
theorem os_div : OpS T X (binaryOp .FloorDiv) ivDiv := by
  intro W tk pins s σ H x y v u Q ι hp xi yi I rx ry R rxi ryi P
  unfold ivDiv at P
  split at P
  · cases rxi; cases ryi
    obtain ⟨z, P⟩ := okIf_wp P
    rw [Bool.and_eq_true_iff] at z
    exact L2.op_fdiv pins s σ H _ _ v u Q I rx ry ⟨_, _, rfl, rfl, ⟨of_decide_eq_true z.1, of_decide_eq_true z.2⟩, DV.val P R (.int _)⟩
  · exact P.elim
def ivMod (x y : IV) (h : IHeap) : Res IV := match x, y with
  | .int i, .int j => okIf (decide (0 < j)) (.int (i % j)) h
  | _, _ => .bad
theorem os_mod : OpS T X (binaryOp .Mod) ivMod := by
  intro W tk pins s σ H x y v u Q ι hp xi yi I rx ry R rxi ryi P
  unfold ivMod at P
  split at P
  · cases rxi; cases ryi
    obtain ⟨z, P⟩ := okIf_wp P
    exact L2.op_mod pins s σ H _ _ v u Q I rx ry ⟨_, _, rfl, rfl, of_decide_eq_true z, DV.val P R (.int _)⟩
  · exact P.elim

/-! #### * -/
theorem tmul0 (at_ : Addr) (vals : Array Value) (cap : Nat) (od : Option Addr) (slo : Array (Option Value)) (z : Int) (tz : Tok) (hz : z ≤ 0) (hlo : -(2 ^ 63) ≤ z) (hne : vals.isEmpty = false) :
    Meets (Builtin.«tuple.__mul__» ⟨[.ref at_, .int z tz], []⟩) (fun _ R st => st.heap.get? at_ = some { cls := .type "tuple", dict := od, data := .seq vals cap, slots := slo } ∧
      R (.ok (.ret (Value.ref st.heap.objs.size))) { st with heap := st.heap.push { cls := Value.type "tuple", data := Data.seq #[] }, toks := st.toks }) :=
  .of_wp fun prog w A R st hyp => by
    obtain ⟨hh, gg, dd, tt, oo⟩ := st
    obtain ⟨hl, hyp⟩ := hyp
    have f1 := AutoSeq1.idx_int
    have k0 : (decide (z < -(2 ^ 63)) || decide (z ≥ 2 ^ 63)) = false := by
      rw [decide_eq_false (by omega), decide_eq_false (by omega)]; rfl
    have k1 : (vals.isEmpty || z == 1) = false := by
      rw [hne, Bool.false_or]; exact beq_eq_false_iff_ne.mpr (by omega)
    have k2 : (decide (z ≤ 0) || vals.isEmpty) = true := by rw [decide_eq_true hz]; rfl
    (wp_walk using wpAny_loadPart' hl)
    repeat (first
      | (refine wpAny_ite_false (decide_eq_false (by rw [k0]; decide)) ?_; wp_walk using wpAny_loadPart' hl)
      | (refine wpAny_ite_false (decide_eq_false (by rw [k1]; decide)) ?_; wp_walk using wpAny_loadPart' hl)
      | (refine wpAny_ite_true (decide_eq_true k2) ?_; wp_walk using wpAny_loadPart' hl)
      | (refine wpAny_ite_false (by first | rfl | decide) ?_; wp_walk using wpAny_loadPart' hl))
    exact ⟨_, rfl, hyp⟩
theorem tmul1 (at_ : Addr) (vals : Array Value) (cap : Nat) (od : Option Addr) (slo : Array (Option Value)) (z : Int) (tz : Tok) (h0 : (decide (z < -(2 ^ 63)) || decide (z ≥ 2 ^ 63)) = false) (k1 : (vals.isEmpty || z == 1) = true) :
    Meets (Builtin.«tuple.__mul__» ⟨[.ref at_, .int z tz], []⟩) (fun _ R st => st.heap.get? at_ = some { cls := .type "tuple", dict := od, data := .seq vals cap, slots := slo } ∧
      R (.ok (.ret (Value.ref at_))) st) :=
  .of_wp fun prog w A R st hyp => by
    obtain ⟨hh, gg, dd, tt, oo⟩ := st
    obtain ⟨hl, hyp⟩ := hyp
    have f1 := AutoSeq1.idx_int
    (wp_walk using wpAny_loadPart' hl)
    repeat (first
      | (refine wpAny_ite_false (decide_eq_false (by rw [h0]; decide)) ?_; wp_walk using wpAny_loadPart' hl)
      | (refine wpAny_ite_true (decide_eq_true k1) ?_; wp_walk using wpAny_loadPart' hl)
      | (refine wpAny_ite_true (by first | rfl | decide) ?_; wp_walk using wpAny_loadPart' hl))
    exact ⟨_, rfl, hyp⟩
end
def rep (n : Nat) (xs : List IV) : List IV := match n with
  | 0 => []
  | k + 1 => xs ++ rep k xs
def ivMul (x y : IV) (h : IHeap) : Res IV := match x, y with
  | .int i, .int j => okIf (Nat.ble (Nat.log2 i.natAbs + Nat.log2 j.natAbs) 900000) (.int (i * j)) h
  | .tup a, .int k => cond (decide (-(2 ^ 63) ≤ k) && decide (k ≤ 1000) && Nat.ble a.length 1000) (.ok (.tup (rep k.toNat a)) h) .bad
  | .ref i, .int k => match h.get i with
    | some (.lst a) => cond (decide (-(2 ^ 63) ≤ k) && decide (k ≤ 1000000) && Nat.ble (a.length * k.toNat) sizeLine) (.ok (.ref h.n) (h.add (.lst (rep k.toNat a)))) .bad
    | _ => .bad
  | _, _ => .bad
section
variable {T : Tab} {X : Cx} {ι : List Addr} {H : Hp}
theorem RVs.rep {xs : List IV} {vs : List V} (r : RVs T ι H xs vs) : ∀ n, RVs T ι H (rep n xs) (List.replicate n vs).flatten
  | 0 => .nil
  | n + 1 => by
    show RVs T ι H (xs ++ SV.rep n xs) (List.replicate (n + 1) vs).flatten
    rw [List.replicate_succ]
    rw [List.flatten_cons]
    exact r.append (RVs.rep r n)
theorem os_mul (hK : X.K = T.K) : OpS T X (binaryOp .Mult) ivMul := by
  intro W tk pins s σ H x y v u Q ι hp xi yi I rx ry R rxi ryi P
  unfold ivMul at P
  split at P
  · rename_i i j
    cases rxi; cases ryi
    obtain ⟨z, P⟩ := okIf_wp P
    have z := Nat.le_of_ble_eq_true z
    have b1 : i.natAbs < 2 ^ (Nat.log2 i.natAbs + 1) := Nat.lt_log2_self
    have b2 : j.natAbs < 2 ^ (Nat.log2 j.natAbs + 1) := Nat.lt_log2_self
    exact L2.op_mulW pins s σ H _ _ v u Q I rx ry ⟨_, _, rfl, rfl, L2.wide_mul b1 b2 (Nat.succ_pos _) (Nat.succ_pos _) (by omega), DV.val P R (.int _)⟩
  · rename_i a k
    cases q : (decide (-(2 ^ 63) ≤ k) && decide (k ≤ 1000) && Nat.ble a.length 1000)
    · rw [q] at P; exact P.elim
    · rw [q] at P
      rw [Bool.and_eq_true_iff, Bool.and_eq_true_iff] at q
      obtain ⟨⟨q1, q2⟩, q3⟩ := q
      have q1 := of_decide_eq_true q1
      have q2 := of_decide_eq_true q2
      have q3 := Nat.le_of_ble_eq_true q3
      cases rxi with
      | @tup _ vs a' h1 r1 =>
      cases ryi
      have hl := r1.length
      have P : DV T ι H Q (.tup (rep k.toNat a)) hp := P
      have h1 : SqT X.K H a' vs := hK ▸ h1
      by_cases e1 : a = [] ∨ k = 1
      · have e : rep k.toNat a = a := by
          rcases e1 with e1 | e1
          · subst e1
            have : ∀ n, rep n ([] : List IV) = [] := fun n => by induction n with
              | zero => rfl
              | succ n ih => simpa [rep] using ih
            exact this _
          · subst e1; simp [rep]
        rw [e] at P
        cases rx
        obtain ⟨t, rfl⟩ := ry
        obtain ⟨its, r, ⟨⟨cls, dd, data, sl⟩, ho, hc, n, hd⟩, hs⟩ := I.tuple h1
        simp only at hc hd
        subst hc hd
        refine wpAny_binaryOp_repeat_ref (T := "tuple") (U := "int") (by decide) ⟨_, ho, rfl⟩ (fun s' => typeIs_int s' k t) L2.noFill_tuple_mul F.fills_int_mul F.slot_int_rmul L2.repeat_tuple F.slot_int_index.lookup
          (call_meets F.slot_int_rmul (typeIs_int s k t) F.entry_int_rmul (F.args_int_rmul_2 _ _) (L2.int_rmul_tuple k t a' its.toArray n dd sl)
            ⟨ho, rfl, ⟨_, ho, rfl⟩, call_meets F.slot_tuple_mul ⟨_, ho, rfl⟩ F.entry_tuple_mul (F.args_tuple_mul_2 _ _) (tmul1 a' its.toArray n dd sl k t ?_ ?_) ⟨ho, ?_⟩⟩)
        · rw [decide_eq_false (by omega), decide_eq_false (by omega)]; rfl
        · rcases e1 with e1 | e1
          · subst e1
            cases r1
            cases r
            rfl
          · subst e1; simp
        · exact ⟨.ref a', H, I, rfl, DV.val P R (.tup (hK ▸ h1) r1)⟩
      · have ha : a ≠ [] := fun e => e1 (.inl e)
        have hv : vs ≠ [] := fun e => ha (by subst e; cases r1; rfl)
        by_cases e2 : k ≤ 0
        · have e : rep k.toNat a = [] := by rw [Int.toNat_of_nonpos e2]; rfl
          rw [e] at P
          cases rx
          obtain ⟨t, rfl⟩ := ry
          obtain ⟨its, r, ⟨⟨cls, dd, data, sl⟩, ho, hc, n, hd⟩, hs⟩ := I.tuple h1
          simp only at hc hd
          subst hc hd
          have nonempty : its.toArray.isEmpty = false := by
            cases its with
            | nil => cases r; exact absurd rfl hv
            | cons _ _ => rfl
          refine wpAny_binaryOp_repeat_ref (T := "tuple") (U := "int") (by decide) ⟨_, ho, rfl⟩ (fun s' => typeIs_int s' k t) L2.noFill_tuple_mul F.fills_int_mul F.slot_int_rmul L2.repeat_tuple F.slot_int_index.lookup
            (call_meets F.slot_int_rmul (typeIs_int s k t) F.entry_int_rmul (F.args_int_rmul_2 _ _) (L2.int_rmul_tuple k t a' its.toArray n dd sl)
              ⟨ho, rfl, ⟨_, ho, rfl⟩, call_meets F.slot_tuple_mul ⟨_, ho, rfl⟩ F.entry_tuple_mul (F.args_tuple_mul_2 _ _) (tmul0 a' its.toArray n dd sl k t e2 q1 nonempty) ⟨ho, ?_⟩⟩)
          refine ⟨.ref s.heap.objs.size, _, I.laid (t' := s.toks) (o := .tup []) (fun b ob q => Heap.get?_push_of_some _ q) (Nat.le_refl _) ?_, rfl, DV.tup P R .nil _ (I.hok.fresh (Nat.le_refl _))⟩
          exact ⟨Nat.zero_le _, [], .nil, IsTup.new _ _⟩
        · refine L2.op_repT pins s σ H _ _ v u Q I rx ry ⟨_, _, _, rfl, rfl, h1, hv, by have : k ≠ 1 := fun e => e1 (.inr e); omega, q2, by omega, DV.tup P R (r1.rep _)⟩
  · rename_i i k
    split at P
    · rename_i a hi
      cases q : (decide (-(2 ^ 63) ≤ k) && decide (k ≤ 1000000) && Nat.ble (a.length * k.toNat) sizeLine)
      · rw [q] at P; exact P.elim
      · rw [q] at P
        rw [Bool.and_eq_true_iff, Bool.and_eq_true_iff] at q
        obtain ⟨⟨q1, q2⟩, q3⟩ := q
        have q1 := of_decide_eq_true q1
        have q2 := of_decide_eq_true q2
        have q3 := Nat.le_of_ble_eq_true q3
        obtain ⟨b, vs, rfl, _, hb, r1⟩ := R.lst hi rxi
        cases ryi
        rw [r1.length] at q3
        exact L2.op_rep pins s σ H _ _ v u Q I rx ry ⟨_, _, _, rfl, rfl, hb, q1, by omega, q3, DV.lst P R (r1.rep _)⟩
    · exact P.elim
  · exact P.elim

/-! #### order of ints -/
def ivCmpI (p : Int → Int → Bool) (x y : IV) (h : IHeap) : Res IV := match x, y with
  | .int i, .int j => .ok (.bl (p i j)) h
  | _, _ => .bad
theorem os_cmpI {op : CmpOp} {p : Int → Int → Bool} (ho : OpR X (compareOp op) (rI0 fun i j => .bl (p i j))) : OpS T X (compareOp op) (ivCmpI p) := by
  intro W tk pins s σ H x y v u Q ι hp xi yi I rx ry R rxi ryi P
  unfold ivCmpI at P
  split at P
  · cases rxi; cases ryi
    exact ho pins s σ H _ _ v u Q I rx ry ⟨_, _, rfl, rfl, DV.val P R (.bl _)⟩
  · exact P.elim
abbrev ivLt := ivCmpI fun i j => decide (i < j)
abbrev ivLe := ivCmpI fun i j => decide (i ≤ j)
abbrev ivGt := ivCmpI fun i j => decide (j < i)
abbrev ivGe := ivCmpI fun i j => decide (j ≤ i)
theorem os_lt : OpS T X (compareOp .Lt) ivLt := os_cmpI L2.op_lt
theorem os_le : OpS T X (compareOp .LtE) ivLe := os_cmpI L2.op_le
theorem os_gt : OpS T X (compareOp .Gt) ivGt := os_cmpI L2.op_gt
theorem os_ge : OpS T X (compareOp .GtE) ivGe := os_cmpI L2.op_ge
def ivNeg (x : IV) (h : IHeap) : Res IV := match x with
  | .int i => .ok (.int (-i)) h
  | _ => .bad
theorem us_neg : UnS T X (unaryOp .USub) ivNeg := by
  intro W tk pins s σ H x v Q ι hp xi I rx R rxi P
  unfold ivNeg at P
  split at P
  · cases rxi
    exact L2.un_neg pins s σ H _ v Q I rx ⟨_, rfl, DV.val P R (.int _)⟩
  · exact P.elim
/-! #### None -/
def isNon : IV → Bool
  | .non => true
  | _ => false
theorem isNon_iff {x : IV} {v : V} (r : RV T ι H x v) : isNon x = decide (v = .non) := by cases r <;> rfl
def ivIsN (x y : IV) (h : IHeap) : Res IV := match y with
  | .non => .ok (.bl (isNon x)) h
  | _ => .bad
def ivNotN (x y : IV) (h : IHeap) : Res IV := match y with
  | .non => .ok (.bl (!isNon x)) h
  | _ => .bad
theorem os_isN : OpS T X (compareOp .Is) ivIsN := by
  intro W tk pins s σ H x y v u Q ι hp xi yi I rx ry R rxi ryi P
  unfold ivIsN at P
  split at P
  · cases ryi
    have z := DV.val P R (.bl _)
    rw [isNon_iff rxi] at z
    exact L2.op_isN pins s σ H _ _ v u Q I rx ry ⟨rfl, z⟩
  · exact P.elim
theorem os_notN : OpS T X (compareOp .IsNot) ivNotN := by
  intro W tk pins s σ H x y v u Q ι hp xi yi I rx ry R rxi ryi P
  unfold ivNotN at P
  split at P
  · cases ryi
    have z := DV.val P R (.bl _)
    rw [isNon_iff rxi] at z
    exact L2.op_notN pins s σ H _ _ v u Q I rx ry ⟨rfl, z⟩
  · exact P.elim

/-! #### == of data -/
def toD (h : IHeap) : Nat → IV → Option PyData
  | 0, _ => none
  | k + 1, x => match x with
    | .non => some .none
    | .bl b => some (.bool b)
    | .int i => some (.int i)
    | .str z => some (.str z)
    | .tup xs => (allSome (xs.map (toD h k))).map .tuple
    | .ref i => match h.items i with
      | some xs => (allSome (xs.map (toD h k))).map .list
      | none => none
    | _ => none
theorem toDs_dp {h : IHeap} {k : Nat} (ih : ∀ x v d, RV T ι H x v → toD h k x = some d → Dp T.K H v d) : ∀ (xs : List IV) (vs : List V) (ds : List PyData), RVs T ι H xs vs → allSome (xs.map (toD h k)) = some ds → DpAll T.K H vs ds
  | _, _, ds, .nil, e => by cases e; exact .nil
  | x :: xs, v :: vs, ds, .cons r t, e => by
    rw [List.map_cons] at e
    cases q : toD h k x with
    | none => exact absurd (q ▸ e) (by simp [allSome])
    | some d =>
      rw [q] at e
      unfold allSome at e
      cases q2 : allSome (xs.map (toD h k)) with
      | none => rw [q2] at e; cases e
      | some l => rw [q2] at e; cases e; exact .cons (ih _ _ _ r q) (toDs_dp ih _ _ _ t q2)
theorem toD_dp {h : IHeap} (R : Rel T ι h H) : ∀ (k : Nat) (x : IV) (v : V) (d : PyData), RV T ι H x v → toD h k x = some d → Dp T.K H v d
  | 0, _, _, _, _, e => by cases e
  | k + 1, x, v, d, r, e => by
    cases x with
    | non => cases r; cases e; exact .non
    | bl b => cases r; cases e; exact .bl _
    | int i => cases r; cases e; exact .int _
    | str z => cases r; cases e; exact .str _
    | tup xs =>
      cases r with
      | tup h1 r1 =>
        have e : (allSome (xs.map (toD h k))).map PyData.tuple = some d := e
        obtain ⟨ds, e1, e2⟩ := Option.map_eq_some_iff.mp e
        subst e2
        exact .tup h1 (toDs_dp (toD_dp R k) _ _ _ r1 e1)
    | ref i =>
      have e : (match h.items i with | some xs => (allSome (xs.map (toD h k))).map PyData.list | none => none) = some d := e
      cases q : h.items i with
      | none => exact absurd (q ▸ e) (by simp)
      | some xs =>
        rw [q] at e
        obtain ⟨ds, e1, e2⟩ := Option.map_eq_some_iff.mp e
        subst e2
        obtain ⟨a, vs, rfl, _, h1, r1⟩ := R.seq q r
        exact .lst h1 (toDs_dp (toD_dp R k) _ _ _ r1 e1)
    | cls c => cases e
    | fn f => cases e
    | ty t => cases e
    | kd t => cases e
def ivEqD (neg : Bool) (x y : IV) (h : IHeap) : Res IV := match toD h 9 x, toD h 9 y with
  | some d, some e => okIf (SeqAt.shaped d && SeqAt.shaped e) (.bl (cond neg (!PyData.eqv d e) (PyData.eqv d e))) h
  | _, _ => .bad
theorem os_eqD (hK : X.K = T.K) (hu : X.A.units + 64 < cLine) : OpS T X (compareOp .Eq) (ivEqD false) := by
  intro W tk pins s σ H x y v u Q ι hp xi yi I rx ry R rxi ryi P
  unfold ivEqD at P
  split at P
  · rename_i d e hd he
    obtain ⟨z, P⟩ := okIf_wp P
    rw [Bool.and_eq_true_iff] at z
    exact L2.op_eqD hu pins s σ H _ _ v u Q I rx ry ⟨d, e, hK ▸ toD_dp R _ _ _ _ rxi hd, hK ▸ toD_dp R _ _ _ _ ryi he, z.1, z.2, DV.val P R (.bl _)⟩
  · exact P.elim
theorem os_neD (hK : X.K = T.K) (hu : X.A.units + 64 < cLine) : OpS T X (compareOp .NotEq) (ivEqD true) := by
  intro W tk pins s σ H x y v u Q ι hp xi yi I rx ry R rxi ryi P
  unfold ivEqD at P
  split at P
  · rename_i d e hd he
    obtain ⟨z, P⟩ := okIf_wp P
    rw [Bool.and_eq_true_iff] at z
    exact L2.op_neD hu pins s σ H _ _ v u Q I rx ry ⟨d, e, hK ▸ toD_dp R _ _ _ _ rxi hd, hK ▸ toD_dp R _ _ _ _ ryi he, z.1, z.2, DV.val P R (.bl _)⟩
  · exact P.elim
end
end SV
set_option maxHeartbeats 3999999
namespace SV
open PySem PySem.Spec
open PyProof.Rows L2

/-! ### what the library's call rules ask of a text, named -/
/-- the first argument is no starred one -/
abbrev Arg1 (X : Cx) (e : Expr) (es : List Expr) : Prop := starEach (e :: es) X.env = (false, eval e X.env) :: starEach es X.env
abbrev NoStar (X : Cx) (pos : Pos) (es : List Expr) : Prop := (backTo pos (starEach es X.env)).any (·.1) = false
/-- fewer than thirty arguments, all plain -/
abbrev Few (X : Cx) (pos : Pos) (as : List Expr) : Prop := ((backTo pos (starEach as X.env)).all (fun x => !x.1) && (backToKw pos (keywordEach [] X.env)).all (fun x => x.1.isSome) &&
  decide (as.length + ([] : List Keyword).length + (if ([] : List Keyword).isEmpty then 0 else 1) < 30)) = true
abbrev OneLine (a c : Pos) : Prop := (a.endLine == c.line) = true
/-! ### expressions -/
def evV (i : Nat) : Ev := fun σ h => match σ[i]? with
  | some (some v) => .ok v h
  | _ => .bad
def evC (v : IV) : Ev := fun _ h => .ok v h
def evB (g : IV → IV → IHeap → Res IV) (fa fb : Ev) : Ev := fun σ h => (fa σ h).bind fun x h1 => (fb σ h1).bind fun y h2 => g x y h2
def evU (g : IV → IHeap → Res IV) (fa : Ev) : Ev := fun σ h => (fa σ h).bind fun x h1 => g x h1
def isB (v : IV) (h : IHeap) : Res Bool := match v with
  | .bl b => .ok b h
  | _ => .bad
/-- a value that is a bool, as a test -/
def etV (f : Ev) : EvT := fun σ h => (f σ h).bind isB
/-- a test as a value -/
def evT (f : EvT) : Ev := fun σ h => (f σ h).bind fun b h1 => .ok (.bl b) h1
def evAnd (fa fb : Ev) : Ev := fun σ h => (fa σ h).bind fun x h1 => match x with
  | .bl true => fb σ h1
  | .bl false => .ok (.bl false) h1
  | _ => .bad
def evOr (fa fb : Ev) : Ev := fun σ h => (fa σ h).bind fun x h1 => match x with
  | .bl false => fb σ h1
  | .bl true => .ok (.bl true) h1
  | _ => .bad
def evNot (fa : Ev) : Ev := fun σ h => (fa σ h).bind fun x h1 => match x with
  | .bl b => .ok (.bl (!b)) h1
  | _ => .bad
def etAnd (fa fb : EvT) : EvT := fun σ h => (fa σ h).bind fun b h1 => cond b (fb σ h1) (.ok false h1)
def etOr (fa fb : EvT) : EvT := fun σ h => (fa σ h).bind fun b h1 => cond b (.ok true h1) (fb σ h1)
def etNot (fa : EvT) : EvT := fun σ h => (fa σ h).bind fun b h1 => .ok (!b) h1
def evIf (ft : EvT) (fa fb : Ev) : Ev := fun σ h => (ft σ h).bind fun b h1 => cond b (fa σ h1) (fb σ h1)
/-- a op1 b op2 c -/
def evCh2 (g1 g2 : IV → IV → IHeap → Res IV) (fa fb fc : Ev) : Ev := fun σ h => (fa σ h).bind fun x h1 => (fb σ h1).bind fun y h2 => (g1 x y h2).bind fun z h3 => match z with
  | .bl true => (fc σ h3).bind fun w h4 => g2 y w h4
  | .bl false => .ok (.bl false) h3
  | _ => .bad
def eaN : EvA := fun _ h => .ok [] h
def eaC (fa : Ev) (fr : EvA) : EvA := fun σ h => (fa σ h).bind fun x h1 => (fr σ h1).bind fun xs h2 => .ok (x :: xs) h2
def itemsOf (v : IV) (h : IHeap) : Option (List IV) := match v with
  | .tup xs => some xs
  | .ref i => h.items i
  | _ => none
def eaS (fa : Ev) (fr : EvA) : EvA := fun σ h => (fa σ h).bind fun x h1 => match itemsOf x h1 with
  | some ys => (fr σ h1).bind fun xs h2 => .ok (ys ++ xs) h2
  | none => .bad
def evTup (f : EvA) : Ev := fun σ h => (f σ h).bind mkT
def evLst (f : EvA) : Ev := fun σ h => (f σ h).bind mkL
/-- a call by values: the arguments, then g -/
def evF (g : List IV → IHeap → Res IV) (f : EvA) : Ev := fun σ h => (f σ h).bind g

section
variable {T : Tab} {X : Cx} {e a b c : Expr} {es rest : List Expr} {pos p : Pos} {fa fb fc f : Ev} {ft ft' : EvT} {fs : EvA} {W : WX}
theorem se_v (i : Nat) {x : Str} (hN : X.N[i]? = some x := by rfl) (hv : Vis X.env.scope x := by first | exact Or.inl rfl | exact Or.inr (Or.inl rfl) | exact Or.inr (Or.inr rfl)) (hd : (x == ("__debug__" : Str)) = false := by decide)
    (hcd : (x == ("__classdict__" : Str)) = false := by decide) : SE T X (.Name x pos) (evV i) := fun W tk => (pe_var hN hv hd hcd).imp fun σ H Q ⟨ι, hp, σi, R, S, P⟩ => by
  unfold evV at P
  split at P
  · rename_i v e
    obtain ⟨w, h1, h2⟩ := S.get i v e
    exact ⟨w, h1, DV.val P R h2⟩
  · exact P.elim
theorem se_c {x : IV} {v : V} (h : PE X e (L2.tC v)) (r : ∀ ι H, RV T ι H x v) : SE T X e (evC x) := fun W tk => h.imp fun σ H Q ⟨ι, hp, σi, R, S, P⟩ => DV.val P R (r _ _)
theorem se_int {i : Int} {j} : SE T X (.Constant (.int i) j pos) (evC (.int i)) := se_c pe_int fun _ _ => .int i
theorem se_bl {i : Bool} {j} : SE T X (.Constant (.bool i) j pos) (evC (.bl i)) := se_c pe_bl fun _ _ => .bl i
theorem se_non {j} : SE T X (.Constant .none j pos) (evC .non) := se_c pe_non fun _ _ => .non
theorem se_str {x y : Str} {j} (h : x = y) : SE T X (.Constant (.str x) j pos) (evC (.str y)) := se_c (pe_str (x := x)) fun _ _ => h ▸ .str _
theorem se_bin {op : Operator} {g : IV → IV → IHeap → Res IV} (ho : OpS T X (binaryOp op) g) (ha : SE T X a fa) (hb : SE T X b fb) : SE T X (.BinOp a op b pos) (evB g fa fb) := fun W tk =>
  ⟨fun pins s σ H Q I ⟨ι, hp, σi, R, S, P⟩ => wpAny_BinOp (ha.go tk I R S (wp_bind P) fun v s1 ι1 hp1 x V1 H1 I1 R1 e1 S1 r1 rv1 q1 => hb.go tk I1 R1 S1 (wp_mono (wp_bind q1) (fun _ _ z => z) fun _ _ _ => DX.up e1) fun u s2 ι2 hp2 y V2 H2 I2 R2 e2 S2 r2 rv2 q2 =>
    ho W tk pins s2 σ H2 V1 V2 v u Q ι2 hp2 x y I2 rv1 rv2 R2 (r1.up e2) r2 (wp_mono q2 (fun _ _ => DV.up (e1.trans e2)) fun _ _ _ => DX.up (e1.trans e2)))⟩
theorem se_un {op : UnaryOp} {g : IV → IHeap → Res IV} (ho : UnS T X (unaryOp op) g) (ha : SE T X a fa) : SE T X (.UnaryOp op a pos) (evU g fa) := fun W tk =>
  ⟨fun pins s σ H Q I ⟨ι, hp, σi, R, S, P⟩ => UnaryOp_ (ha.go tk I R S (wp_bind P) fun v s1 ι1 hp1 x V1 H1 I1 R1 e1 S1 r1 rv1 q1 =>
    ho W tk pins s1 σ H1 V1 v Q ι1 hp1 x I1 rv1 R1 r1 (wp_mono q1 (fun _ _ => DV.up e1) fun _ _ _ => DX.up e1))⟩
theorem se_cmp {op : CmpOp} {g : IV → IV → IHeap → Res IV} (ho : OpS T X (compareOp op) g) (ha : SE T X a fa) (hb : SE T X b fb) (hm : behindInMarks op b = false := by first | exact nomark _ | rfl) : SE T X (.Compare a [op] [b] pos) (evB g fa fb) := fun W tk =>
  ⟨fun pins s σ H Q I ⟨ι, hp, σi, R, S, P⟩ => wpAny_Compare1 (ha.go tk I R S (wp_bind P) fun v s1 ι1 hp1 x V1 H1 I1 R1 e1 S1 r1 rv1 q1 => hb.go tk I1 R1 S1 (wp_mono (wp_bind q1) (fun _ _ z => z) fun _ _ _ => DX.up e1) fun u s2 ι2 hp2 y V2 H2 I2 R2 e2 S2 r2 rv2 q2 =>
    ho W tk pins s2 σ H2 V1 V2 v u Q ι2 hp2 x y I2 rv1 rv2 R2 (r1.up e2) r2 (wp_mono q2 (fun _ _ => DV.up (e1.trans e2)) fun _ _ _ => DX.up (e1.trans e2))) hm⟩
theorem isB_wp {x : IV} {h : IHeap} {Qk : Bool → IHeap → Prop} {Qe : Nat → Fs → IHeap → Prop} (p : (isB x h).wp Qk Qe) : ∃ b, x = .bl b ∧ Qk b h := by
  unfold isB at p
  split at p
  · exact ⟨_, rfl, p⟩
  · exact p.elim
theorem st_cmp {op : CmpOp} {g : IV → IV → IHeap → Res IV} (ho : OpS T X (compareOp op) g) (ha : SE T X a fa) (hb : SE T X b fb) (hm : behindInMarks op b = false := by first | exact nomark _ | rfl) : ST T X (.Compare a [op] [b] pos) (etV (evB g fa fb)) := fun W tk =>
  ⟨fun pins s σ H Q I ⟨ι, hp, σi, R, S, P⟩ => wpAny_isTrue_Compare1 (ha.go tk I R S (wp_bind (wp_bind P)) fun v s1 ι1 hp1 x V1 H1 I1 R1 e1 S1 r1 rv1 q1 => hb.go tk I1 R1 S1 (wp_mono (wp_bind q1) (fun _ _ z => z) fun _ _ _ => DX.up e1) fun u s2 ι2 hp2 y V2 H2 I2 R2 e2 S2 r2 rv2 q2 =>
    thn (ho W tk pins s2 σ H2 V1 V2 v u (fun V H' => ∃ bb, V = .bl bb ∧ Q bb H') ι2 hp2 x y I2 rv1 rv2 R2 (r1.up e2) r2 (wp_mono q2 (fun z h3 q3 ι3 H3 V3 R3 e3 r3 => by
      obtain ⟨bb, rfl, q4⟩ := isB_wp q3
      cases r3
      exact ⟨bb, rfl, q4 ι3 H3 R3 ((e1.trans e2).trans e3)⟩) fun _ _ _ => DX.up (e1.trans e2))) fun w s3 ⟨V3, H3, I3, rv3, bb, ev, q3⟩ => by
        subst ev
        cases rv3
        exact wpAny_truthy_bool ⟨H3, I3, q3⟩) hm⟩
theorem st_v (h : SE T X e f) (he : ∀ whole, isTrue e X.env whole = (do let v ← whole; standAt e.pos; holding [v] (truthy v)) := by intro _; rfl) : ST T X e (etV f) := fun W tk =>
  ⟨fun pins s σ H Q I ⟨ι, hp, σi, R, S, P⟩ => isTrue_plain (h.go tk I R S (wp_bind P) fun v s1 ι1 hp1 x V1 H1 I1 R1 e1 S1 r1 rv1 q1 => by
    obtain ⟨bb, rfl, q4⟩ := isB_wp q1
    cases r1
    cases rv1
    exact wpAny_truthy_bool ⟨H1, I1, q4 ι1 H1 R1 e1⟩) (he _)⟩
theorem st_not (h : ST T X a ft) : ST T X (.UnaryOp .Not a pos) (etNot ft) := fun W tk => (pt_not (h W tk)).imp fun σ H Q ⟨ι, hp, σi, R, S, P⟩ =>
  ⟨ι, hp, σi, R, S, wp_mono (wp_bind P) (fun b h q ι' H' R' e' => q ι' H' R' e') fun _ _ _ z => z⟩
theorem st_one_and (h : ST T X a ft) : ∀ W, Takes X W → PW X (.BoolOp .And [a] pos) (tT T W ft) := fun W tk => pw_and1 (h W tk)
theorem st_one_or (h : ST T X a ft) : ∀ W, Takes X W → PW X (.BoolOp .Or [a] pos) (tT T W ft) := fun W tk => pw_or1 (h W tk)
def SW (T : Tab) (X : Cx) (e : Expr) (f : EvT) : Prop := ∀ W, Takes X W → PW X e (tT T W f)
theorem SW.st (h : SW T X e ft) : ST T X e ft := fun W tk => (h W tk).pt
theorem sw_and1 (h : ST T X a ft) : SW T X (.BoolOp .And [a] pos) ft := fun W tk => pw_and1 (h W tk)
theorem sw_or1 (h : ST T X a ft) : SW T X (.BoolOp .Or [a] pos) ft := fun W tk => pw_or1 (h W tk)
theorem sw_and (ha : ST T X a ft) (hb : SW T X (.BoolOp .And (b :: rest) pos) ft') : SW T X (.BoolOp .And (a :: b :: rest) pos) (etAnd ft ft') := fun W tk => (pw_and (ha W tk) (hb W tk)).imp fun σ H Q ⟨ι, hp, σi, R, S, P⟩ =>
  ⟨ι, hp, σi, R, S, wp_mono (wp_bind P) (fun b h q ι' H' R' e' => by
    cases b
    · exact q ι' H' R' e'
    · exact contT R' S e' q) fun _ _ _ z => z⟩
theorem sw_or (ha : ST T X a ft) (hb : SW T X (.BoolOp .Or (b :: rest) pos) ft') : SW T X (.BoolOp .Or (a :: b :: rest) pos) (etOr ft ft') := fun W tk => (pw_or (ha W tk) (hb W tk)).imp fun σ H Q ⟨ι, hp, σi, R, S, P⟩ =>
  ⟨ι, hp, σi, R, S, wp_mono (wp_bind P) (fun b h q ι' H' R' e' => by
    cases b
    · exact contT R' S e' q
    · exact q ι' H' R' e') fun _ _ _ z => z⟩
theorem se_one {op} (h : SE T X a fa) : SE T X (.BoolOp op [a] pos) fa := fun W tk => pe_one (h W tk)
theorem se_and (ha : SE T X a fa) (hb : SE T X (.BoolOp .And (b :: rest) pos) fb) : SE T X (.BoolOp .And (a :: b :: rest) pos) (evAnd fa fb) := fun W tk => (pe_and (ha W tk) (hb W tk)).imp fun σ H Q ⟨ι, hp, σi, R, S, P⟩ =>
  ⟨ι, hp, σi, R, S, wp_mono (wp_bind P) (fun x h q ι' H' V' R' e' r' => by
    split at q
    · cases r'; exact ⟨true, rfl, contE R' S e' q⟩
    · cases r'; exact ⟨false, rfl, q ι' H' _ R' e' (.bl false)⟩
    · exact q.elim) fun _ _ _ z => z⟩
theorem se_or (ha : SE T X a fa) (hb : SE T X (.BoolOp .Or (b :: rest) pos) fb) : SE T X (.BoolOp .Or (a :: b :: rest) pos) (evOr fa fb) := fun W tk => (pe_or (ha W tk) (hb W tk)).imp fun σ H Q ⟨ι, hp, σi, R, S, P⟩ =>
  ⟨ι, hp, σi, R, S, wp_mono (wp_bind P) (fun x h q ι' H' V' R' e' r' => by
    split at q
    · cases r'; exact ⟨false, rfl, contE R' S e' q⟩
    · cases r'; exact ⟨true, rfl, q ι' H' _ R' e' (.bl true)⟩
    · exact q.elim) fun _ _ _ z => z⟩
theorem se_not (ha : SE T X a fa) : SE T X (.UnaryOp .Not a pos) (evNot fa) := fun W tk => (pe_not (ha W tk)).imp fun σ H Q ⟨ι, hp, σi, R, S, P⟩ =>
  ⟨ι, hp, σi, R, S, wp_mono (wp_bind P) (fun x h q ι' H' V' R' e' r' => by
    split at q
    · cases r'; exact ⟨_, rfl, q ι' H' _ R' e' (.bl _)⟩
    · exact q.elim) fun _ _ _ z => z⟩
theorem se_if (hc : ST T X c ft) (ha : SE T X a fa) (hb : SE T X b fb) : SE T X (.IfExp c a b pos) (evIf ft fa fb) := fun W tk => (pe_ifExp (hc W tk) (ha W tk) (hb W tk)).imp fun σ H Q ⟨ι, hp, σi, R, S, P⟩ =>
  ⟨ι, hp, σi, R, S, wp_mono (wp_bind P) (fun b h q ι' H' R' e' => by
    cases b
    · exact contE R' S e' q
    · exact contE R' S e' q) fun _ _ _ z => z⟩
theorem se_ch2 {op op' : CmpOp} {g1 g2 : IV → IV → IHeap → Res IV} (ho : OpS T X (compareOp op) g1) (ho' : OpS T X (compareOp op') g2) (ha : SE T X a fa) (hb : SE T X b fb) (hc : SE T X c fc)
    (hm : lastMarks [op, op'] [b, c] = false := by with_unfolding_all rfl) : SE T X (.Compare a [op, op'] [b, c] pos) (evCh2 g1 g2 fa fb fc) := fun W tk =>
  ⟨fun pins s σ H Q I ⟨ι, hp, σi, R, S, P⟩ => Compare_chain (ha.go tk I R S (wp_bind P) fun v s1 ι1 hp1 x V1 H1 I1 R1 e1 S1 r1 rv1 q1 => chain_link (hb.go tk I1 R1 S1 (wp_mono (wp_bind q1) (fun _ _ z => z) fun _ _ _ => DX.up e1) fun u s2 ι2 hp2 y V2 H2 I2 R2 e2 S2 r2 rv2 q2 =>
    thn (ho W tk pins s2 σ H2 V1 V2 v u (fun V H' => ∃ ι3 hp3 z, Rel T ι3 hp3 H' ∧ Ext ι2 H2 ι3 H' ∧ RV T ι3 H' z V ∧ (match z with
        | .bl true => (fc σi hp3).bind fun w h4 => g2 y w h4
        | .bl false => .ok (.bl false) hp3
        | _ => .bad : Res IV).wp (DV T ι H Q) (DX T ι H W σ)) ι2 hp2 x y I2 rv1 rv2 R2 (r1.up e2) r2
      (wp_mono (wp_bind q2) (fun z h3 q3 ι3 H3 V3 R3 e3 r3 => ⟨ι3, h3, z, R3, e3, r3, q3⟩) fun _ _ _ => DX.up (e1.trans e2))) fun w s3 ⟨V3, H3, I3, rv3, ι3, hp3, z, R3, e3, r3, q3⟩ => by
        have e03 := (e1.trans e2).trans e3
        split at q3
        · cases r3
          cases rv3
          refine wpAny_truthy_bool (ite_tt (chain_last (hc.go tk I3 R3 (S.up e03) (wp_mono (wp_bind q3) (fun _ _ z => z) fun _ _ _ => DX.up e03) fun w' s4 ι4 hp4 x4 V4 H4 I4 R4 e4 S4 r4 rv4 q4 => ?_)))
          exact ho' W tk pins s4 σ H4 V2 V4 u w' Q ι4 hp4 y x4 I4 rv2 rv4 R4 (r2.up (e3.trans e4)) r4 (wp_mono q4 (fun _ _ => DV.up (e03.trans e4)) fun _ _ _ => DX.up (e03.trans e4))
        · cases r3
          cases rv3
          exact wpAny_truthy_bool (ite_ff ⟨.bl false, H3, I3, rfl, q3 ι3 H3 _ R3 e03 (.bl false)⟩)
        · exact q3.elim)) hm⟩
theorem sa_n : SA T X [] eaN := fun W tk => pa_nil.imp fun σ H Q ⟨ι, hp, σi, R, S, P⟩ => P ι H [] R .refl .nil
theorem sa_c (ha : SE T X e fa) (hr : SA T X es fs) (hs : starEach (e :: es) X.env = (false, eval e X.env) :: starEach es X.env := by rfl) : SA T X (e :: es) (eaC fa fs) := fun W tk =>
  (pa_cons (ha W tk) (hr W tk) hs).imp fun σ H Q ⟨ι, hp, σi, R, S, P⟩ => ⟨ι, hp, σi, R, S, wp_mono (wp_bind P) (fun x h q ι1 H1 V1 R1 e1 r1 =>
    ⟨ι1, h, σi, R1, S.up e1, wp_mono (wp_bind q) (fun xs h2 q2 ι2 H2 Vs R2 e2 r2 => q2 ι2 H2 _ R2 (e1.trans e2) (.cons (r1.up e2) r2)) fun _ _ _ => DX.up e1⟩) fun _ _ _ z => z⟩
theorem itemsOf_seq {ι : List Addr} {hp : IHeap} {H : Hp} {x : IV} {V : V} {ys : List IV} (R : Rel T ι hp H) (r : RV T ι H x V) (e : itemsOf x hp = some ys) : ∃ a vs, V = .ref a ∧ (SqT T.K H a vs ∨ SqL T.K H a vs) ∧ RVs T ι H ys vs := by
  unfold itemsOf at e
  split at e
  · cases e
    cases r with
    | tup h1 r1 => exact ⟨_, _, rfl, .inl h1, r1⟩
  · obtain ⟨a, vs, rfl, _, h1, r1⟩ := R.seq e r
    exact ⟨a, vs, rfl, .inr h1, r1⟩
  · cases e
theorem sa_s (hK : X.K = T.K) (ha : SE T X e fa) (hr : SA T X es fs) (hs : starEach (.Starred e p :: es) X.env = (true, eval e X.env) :: starEach es X.env := by rfl) : SA T X (.Starred e p :: es) (eaS fa fs) := fun W tk =>
  (StX.pa_star (ha W tk) (hr W tk) hs).imp fun σ H Q ⟨ι, hp, σi, R, S, P⟩ => ⟨ι, hp, σi, R, S, wp_mono (wp_bind P) (fun x h q ι1 H1 V1 R1 e1 r1 => by
    split at q
    · rename_i ys ey
      obtain ⟨a, vs, rfl, h1, r2⟩ := itemsOf_seq R1 r1 ey
      refine ⟨a, vs, rfl, by rw [hK]; exact h1, ι1, h, σi, R1, S.up e1, wp_mono (wp_bind q) (fun xs h2 q2 ι2 H2 Vs R2 e2 r3 => q2 ι2 H2 _ R2 (e1.trans e2) ((r2.up e2).append r3)) fun _ _ _ => DX.up e1⟩
    · exact q.elim) fun _ _ _ z => z⟩
theorem se_tup {x1} (h : SA T X es fs) : SE T X (.Tuple es x1 pos) (evTup fs) := fun W tk => (pe_tup (h W tk)).imp fun σ H Q ⟨ι, hp, σi, R, S, P⟩ =>
  ⟨ι, hp, σi, R, S, wp_mono (wp_bind P) (fun xs h q ι' H' V' R' e' r' => by
    obtain ⟨z, q⟩ := mkT_wp q
    exact ⟨by rw [← r'.length]; exact z, DV.tup (DV.up e' q) R' r'⟩) fun _ _ _ z => z⟩
theorem se_lst (h : SA T X es fs) : SE T X (.List es pos) (evLst fs) := fun W tk => (pe_lst (h W tk)).imp fun σ H Q ⟨ι, hp, σi, R, S, P⟩ =>
  ⟨ι, hp, σi, R, S, wp_mono (wp_bind P) (fun xs h q ι' H' V' R' e' r' => by
    obtain ⟨z, q⟩ := mkL_wp q
    exact ⟨by rw [← r'.length]; exact z, DV.lst (DV.up e' q) R' r'⟩) fun _ _ _ z => z⟩
/-- a built-in function that is called by its name -/
theorem se_fB {x : Str} {id : String} {g : List IV → IHeap → Res IV} (hc : CallS T X (.builtin id) g) (hg : Gl X x) (hm : X.mg x = none) (hv : bootBuiltins x = some (.builtin id)) (ha : SA T X (e :: es) fs) (hn : x ≠ "__name__" := by decide) (hdb : (x == ("__debug__" : Str)) = false := by decide)
    (he : starEach (e :: es) X.env = (false, eval e X.env) :: starEach es X.env := by rfl) (hpl : (backTo pos (starEach es X.env)).any (·.1) = false := by rfl) : SE T X (.Call (.Name x p) (e :: es) [] pos) (evF g fs) := fun W tk =>
  ⟨fun pins s σ H Q I ⟨ι, hp, σi, R, S, P⟩ => wpAny_Call_Name_kw (ld_blt I hg hm hv (PyProof.Rows.callWith_builtin1 (ha.go tk I R S (wp_bind P) fun us s1 ι1 hp1 xs Vs H1 I1 R1 e1 S1 r1 rv1 q1 =>
    hc W tk pins s1 σ H1 Vs us Q ι1 hp1 xs I1 rv1 R1 r1 (wp_mono q1 (fun _ _ => DV.up e1) fun _ _ _ => DX.up e1)) he hpl) hn hdb)⟩
/-- a built-in type -/
theorem se_fT {x : Str} {id : String} {g : List IV → IHeap → Res IV} (hc : CallS T X (.type id) g) (hg : Gl X x) (hm : X.mg x = none) (hv : bootBuiltins x = some (.type id)) (ha : SA T X (e :: es) fs) (hn : x ≠ "__name__" := by decide) (hdb : (x == ("__debug__" : Str)) = false := by decide)
    (he : starEach (e :: es) X.env = (false, eval e X.env) :: starEach es X.env := by rfl) (hpl : (backTo pos (starEach es X.env)).any (·.1) = false := by rfl) : SE T X (.Call (.Name x p) (e :: es) [] pos) (evF g fs) := fun W tk =>
  ⟨fun pins s σ H Q I ⟨ι, hp, σi, R, S, P⟩ => wpAny_Call_Name_kw (ld_blt I hg hm hv (PyProof.Rows.callWith_type1 (ha.go tk I R S (wp_bind P) fun us s1 ι1 hp1 xs Vs H1 I1 R1 e1 S1 r1 rv1 q1 =>
    hc W tk pins s1 σ H1 Vs us Q ι1 hp1 xs I1 rv1 R1 r1 (wp_mono q1 (fun _ _ => DV.up e1) fun _ _ _ => DX.up e1)) he hpl) hn hdb)⟩
end
end SV
set_option maxHeartbeats 3999999
namespace SV
open PySem PySem.Spec
open PyProof.Rows L2

/-! ### statements -/
inductive RS where
  | nx (σ : ISt) (h : IHeap)
  | rt (v : IV) (h : IHeap)
  | bk (σ : ISt) (h : IHeap)
  | ct (σ : ISt) (h : IHeap)
  | er (c : Nat) (fs : Fs) (σ : ISt) (h : IHeap)
  | bad
abbrev EvS := ISt → IHeap → RS
def RS.wp (r : RS) (N : ISt → IHeap → Prop) (R : IV → IHeap → Prop) (B C : ISt → IHeap → Prop) (E : Nat → Fs → ISt → IHeap → Prop) : Prop :=
  match r with
  | .nx σ h => N σ h
  | .rt v h => R v h
  | .bk σ h => B σ h
  | .ct σ h => C σ h
  | .er c fs σ h => E c fs σ h
  | .bad => False
/-- the result of an assignment's target -/
inductive GR where
  | nx (σ : ISt) (h : IHeap)
  | er (c : Nat) (fs : Fs) (σ : ISt) (h : IHeap)
  | bad
abbrev EvG := IV → ISt → IHeap → GR
def GR.wp (r : GR) (N : ISt → IHeap → Prop) (E : Nat → Fs → ISt → IHeap → Prop) : Prop := match r with
  | .nx σ h => N σ h
  | .er c fs σ h => E c fs σ h
  | .bad => False
def GR.rs (r : GR) : RS := match r with
  | .nx σ h => .nx σ h
  | .er c fs σ h => .er c fs σ h
  | .bad => .bad
def GR.seq (r : GR) (k : ISt → IHeap → GR) : GR := match r with
  | .nx σ h => k σ h
  | r => r
theorem gr_rs {r : GR} {N : ISt → IHeap → Prop} {R : IV → IHeap → Prop} {B C : ISt → IHeap → Prop} {E : Nat → Fs → ISt → IHeap → Prop} (h : r.rs.wp N R B C E) : r.wp N E := by
  cases r <;> exact h
theorem gr_mono {r : GR} {N N' : ISt → IHeap → Prop} {E E' : Nat → Fs → ISt → IHeap → Prop} (h : r.wp N E) (hn : ∀ a b, N a b → N' a b) (he : ∀ a b c d, E a b c d → E' a b c d) : r.wp N' E' := by
  cases r
  · exact hn _ _ h
  · exact he _ _ _ _ h
  · exact h
theorem gr_seq {r : GR} {k : ISt → IHeap → GR} {N : ISt → IHeap → Prop} {E : Nat → Fs → ISt → IHeap → Prop} (h : (r.seq k).wp N E) : r.wp (fun σ h => (k σ h).wp N E) E := by
  cases r <;> exact h
def Res.st {α : Type} (r : Res α) (σ : ISt) (k : α → IHeap → RS) : RS := match r with
  | .ok v h => k v h
  | .err c fs h => .er c fs σ h
  | .bad => .bad
def RS.seq (r : RS) (k : EvS) : RS := match r with
  | .nx σ h => k σ h
  | r => r
theorem st_wp {α : Type} {r : Res α} {σ : ISt} {k : α → IHeap → RS} {N : ISt → IHeap → Prop} {R : IV → IHeap → Prop} {B C : ISt → IHeap → Prop} {E : Nat → Fs → ISt → IHeap → Prop} (h : (r.st σ k).wp N R B C E) :
    r.wp (fun a h => (k a h).wp N R B C E) (fun c fs h => E c fs σ h) := by
  cases r <;> exact h
theorem seq_wp {r : RS} {k : EvS} {N : ISt → IHeap → Prop} {R : IV → IHeap → Prop} {B C : ISt → IHeap → Prop} {E : Nat → Fs → ISt → IHeap → Prop} (h : (r.seq k).wp N R B C E) : r.wp (fun σ h => (k σ h).wp N R B C E) R B C E := by
  cases r <;> exact h
theorem rs_mono {r : RS} {N N' : ISt → IHeap → Prop} {R R' : IV → IHeap → Prop} {B B' C C' : ISt → IHeap → Prop} {E E' : Nat → Fs → ISt → IHeap → Prop} (h : r.wp N R B C E) (hn : ∀ a b, N a b → N' a b) (hr : ∀ a b, R a b → R' a b)
    (hb : ∀ a b, B a b → B' a b) (hc : ∀ a b, C a b → C' a b) (he : ∀ a b c d, E a b c d → E' a b c d) : r.wp N' R' B' C' E' := by
  cases r
  · exact hn _ _ h
  · exact hr _ _ h
  · exact hb _ _ h
  · exact hc _ _ h
  · exact he _ _ _ _ h
  · exact h
def DN (T : Tab) (ι : List Addr) (H : Hp) (q : Sl → Hp → Prop) : ISt → IHeap → Prop := fun σi hp => ∀ ι' H' σ', Rel T ι' hp H' → Ext ι H ι' H' → RSt T ι' H' σi σ' → q σ' H'
def DXs (T : Tab) (ι : List Addr) (H : Hp) (W : WX) : Nat → Fs → ISt → IHeap → Prop := fun c fs σi hp => ∀ ι' H' d σ', Rel T ι' hp H' → Ext ι H ι' H' → RSt T ι' H' σi σ' → XF T ι' H' fs d → W (T.xc c) d σ' H'
theorem DN.up {T : Tab} {ι ι' : List Addr} {H H' : Hp} {q : Sl → Hp → Prop} {σi : ISt} {hp : IHeap} (e : Ext ι H ι' H') (h : DN T ι H q σi hp) : DN T ι' H' q σi hp := fun _ _ d R e' x => h _ _ d R (e.trans e') x
theorem DXs.up {T : Tab} {ι ι' : List Addr} {H H' : Hp} {W : WX} {c : Nat} {fs : Fs} {σi : ISt} {hp : IHeap} (e : Ext ι H ι' H') (h : DXs T ι H W c fs σi hp) : DXs T ι' H' W c fs σi hp := fun _ _ d s R e' x y => h _ _ d s R (e.trans e') x y
theorem DXs.one {T : Tab} {ι : List Addr} {H : Hp} {W : WX} {c : Nat} {fs : Fs} {σi : ISt} {σ : Sl} {hp : IHeap} (S : RSt T ι H σi σ) (h : DXs T ι H W c fs σi hp) : DX T ι H W σ c fs hp := fun _ _ d R e x => h _ _ d σ R e (S.up e) x
def wpD (T : Tab) (W : WX) (ι : List Addr) (H : Hp) (D : Ends) (r : RS) : Prop := r.wp (DN T ι H D.nx) (DV T ι H D.rt) (DN T ι H D.bk) (DN T ι H D.ct) (DXs T ι H W)
theorem wpD.up {T : Tab} {W : WX} {ι ι' : List Addr} {H H' : Hp} {D : Ends} {r : RS} (e : Ext ι H ι' H') (h : wpD T W ι H D r) : wpD T W ι' H' D r :=
  rs_mono h (fun _ _ => DN.up e) (fun _ _ => DV.up e) (fun _ _ => DN.up e) (fun _ _ => DN.up e) fun _ _ _ _ => DXs.up e
def tS (T : Tab) (W : WX) (f : EvS) : TS := fun D σ H => ∃ ι hp σi, Rel T ι hp H ∧ RSt T ι H σi σ ∧ wpD T W ι H D (f σi hp)
def SS (T : Tab) (X : Cx) (st : Stmt) (f : EvS) : Prop := ∀ W, Takes X W → PS X st (tS T W f)
def SSs (T : Tab) (X : Cx) (st : List Stmt) (f : EvS) : Prop := ∀ W, Takes X W → PSs X st (tS T W f)
def tG (T : Tab) (W : WX) (f : EvG) : TG := fun v σ H Q => ∃ ι hp σi x, Rel T ι hp H ∧ RSt T ι H σi σ ∧ RV T ι H x v ∧ (f x σi hp).wp (DN T ι H Q) (DXs T ι H W)
def SG (T : Tab) (X : Cx) (tg : Expr) (f : EvG) : Prop := ∀ W, Takes X W → PG X tg (tG T W f)

def esSeq (f g : EvS) : EvS := fun σ h => (f σ h).seq g
def esNx : EvS := fun σ h => .nx σ h
def esBk : EvS := fun σ h => .bk σ h
def esCt : EvS := fun σ h => .ct σ h
def esX (f : Ev) : EvS := fun σ h => (f σ h).st σ fun _ h1 => .nx σ h1
def esRt (f : Ev) : EvS := fun σ h => (f σ h).st σ fun v h1 => .rt v h1
def esRn : EvS := fun _ h => .rt .non h
def esIf (ft : EvT) (a b : EvS) : EvS := fun σ h => (ft σ h).st σ fun c h1 => cond c (a σ h1) (b σ h1)
def esAs (f : Ev) (g : EvG) : EvS := fun σ h => (f σ h).st σ fun v h1 => (g v σ h1).rs
def egN (i : Nat) : EvG := fun v σ h => .nx (σ.set i (some v)) h
def esSet (i : Nat) (f : Ev) : EvS := esAs f (egN i)
abbrev EvGs := List IV → ISt → IHeap → GR
def egsN : EvGs := fun vs σ h => match vs with
  | [] => .nx σ h
  | _ => .bad
def egsC (g : EvG) (gr : EvGs) : EvGs := fun vs σ h => match vs with
  | [] => .bad
  | v :: r => (g v σ h).seq (gr r)
/-- (a, b, ..) = a tuple -/
def egT (n : Nat) (g : EvGs) : EvG := fun v σ h => match v with
  | .tup xs => cond (Nat.beq xs.length n) (g xs σ h) .bad
  | _ => .bad

section
variable {T : Tab} {X : Cx} {e a b c : Expr} {st : Stmt} {sts r1 r2 : List Stmt} {pos p : Pos} {fa fb fc f : Ev} {ft ft' : EvT} {s1 s2 : EvS} {W : WX}
theorem RSt.set {ι : List Addr} {H : Hp} {σi : ISt} {σ : Sl} {x : IV} {v : V} (S : RSt T ι H σi σ) (r : RV T ι H x v) (i : Nat) : RSt T ι H (σi.set i (some x)) (σ.set i (some v)) :=
  ⟨by rw [List.length_set, List.length_set, S.len], fun j y q => by
    by_cases h : j = i
    · subst h
      by_cases hl : j < σi.length
      · rw [List.getElem?_set_self hl] at q
        cases q
        exact ⟨v, by rw [List.getElem?_set_self (S.len ▸ hl)], r⟩
      · rw [List.getElem?_eq_none (by rw [List.length_set]; omega)] at q
        cases q
    · rw [List.getElem?_set_ne (Ne.symm h)] at q
      obtain ⟨u, h1, h2⟩ := S.get j y q
      exact ⟨u, by rw [List.getElem?_set_ne (Ne.symm h)]; exact h1, h2⟩⟩
theorem ss_nil : SSs T X [] esNx := fun W tk => pss_nil.imp fun D σ H ⟨ι, hp, σi, R, S, P⟩ => P ι H σ R .refl S
theorem ss_one (h : SS T X st s1) : SSs T X [st] s1 := fun W tk => pss_one (h W tk)
theorem ss_cons (h : SS T X st s1) (hr : SSs T X sts s2) : SSs T X (st :: sts) (esSeq s1 s2) := fun W tk => (pss_cons (h W tk) (hr W tk)).imp fun D σ H ⟨ι, hp, σi, R, S, P⟩ =>
  ⟨ι, hp, σi, R, S, rs_mono (seq_wp P) (fun σ1 h1 q ι' H' σ' R' e' S' => ⟨ι', h1, σ1, R', S', wpD.up e' q⟩) (fun _ _ z => z) (fun _ _ z => z) (fun _ _ z => z) fun _ _ _ _ z => z⟩
theorem ss_pass : SS T X (.Pass pos) esNx := fun W tk => ps_pass.imp fun D σ H ⟨ι, hp, σi, R, S, P⟩ => P ι H σ R .refl S
theorem ss_break : SS T X (.Break pos) esBk := fun W tk => ps_break.imp fun D σ H ⟨ι, hp, σi, R, S, P⟩ => P ι H σ R .refl S
theorem ss_continue : SS T X (.Continue pos) esCt := fun W tk => ps_continue.imp fun D σ H ⟨ι, hp, σi, R, S, P⟩ => P ι H σ R .refl S
theorem ss_doc {x j pos'} : SS T X (.Expr (.Constant (.str x) j pos) pos') esNx := fun W tk => ps_doc.imp fun D σ H ⟨ι, hp, σi, R, S, P⟩ => P ι H σ R .refl S
theorem ss_retN : SS T X (.Return none pos) esRn := fun W tk => ps_retN.imp fun D σ H ⟨ι, hp, σi, R, S, P⟩ => P ι H _ R .refl .non
theorem ss_expr (h : SE T X e f) (hs : swapsWith e none pos.line X.env = pure false := by rfl) : SS T X (.Expr e pos) (esX f) := fun W tk => (ps_expr (h W tk) hs).imp fun D σ H ⟨ι, hp, σi, R, S, P⟩ =>
  ⟨ι, hp, σi, R, S, wp_mono (st_wp P) (fun v h q ι' H' V' R' e' r' => q ι' H' σ R' e' (S.up e')) fun _ _ _ z => DXs.one S z⟩
theorem ss_ret (h : SE T X e f) : SS T X (.Return (some e) pos) (esRt f) := fun W tk => (ps_ret (h W tk)).imp fun D σ H ⟨ι, hp, σi, R, S, P⟩ =>
  ⟨ι, hp, σi, R, S, wp_mono (st_wp P) (fun v h q => q) fun _ _ _ z => DXs.one S z⟩
theorem ss_if (hc : ST T X c ft) (ha : SSs T X r1 s1) (hb : SSs T X r2 s2) : SS T X (.If c r1 r2 pos) (esIf ft s1 s2) := fun W tk => (ps_if (hc W tk) (ha W tk) (hb W tk)).imp fun D σ H ⟨ι, hp, σi, R, S, P⟩ =>
  ⟨ι, hp, σi, R, S, wp_mono (st_wp P) (fun b h q ι' H' R' e' => by
    cases b
    · exact ⟨ι', h, σi, R', S.up e', wpD.up e' q⟩
    · exact ⟨ι', h, σi, R', S.up e', wpD.up e' q⟩) fun _ _ _ z => DXs.one S z⟩
theorem sg_n {x : Str} (i : Nat) (hN : X.N.Nodup) (hi : X.N[i]? = some x := by rfl) (hx : Loc X.env.scope x := by first | exact Or.inl rfl | exact Or.inr rfl) (hf : X.fn x = true ∨ X.env.scope.names.lookup x = some .local := by first | exact .inl rfl | exact .inr rfl | assumption) : SG T X (.Name x pos) (egN i) := fun W tk =>
  ⟨fun pins s σ H v u Q I r ⟨ι, hp, σi, xx, R, S, rv, P⟩ => (pg_name hN hi hx hf).run pins s σ H v u Q I r (P ι H _ R .refl (S.set rv i))⟩
theorem ss_as {tg : Expr} {g : EvG} (he : SE T X e f) (hg : SG T X tg g) (hs : swapsWithSole [tg] e pos.line X.env = pure false := by rfl) (hw : swappedStores [tg] e X.env = pure none := by rfl)
    (h1 : (assignEach [tg] X.env).map (·.2) = [assign tg X.env] := by rfl) : SS T X (.Assign [tg] e pos) (esAs f g) := fun W tk =>
  ⟨fun pins s σ H D I ⟨ι, hp, σi, R, S, P⟩ => (ps_asg (he W tk) (hg W tk) hs hw h1).run pins s σ H D I
    ⟨ι, hp, σi, R, S, wp_mono (st_wp P) (fun v h q ι' H' V' R' e' r' => ⟨ι', h, σi, v, R', S.up e', r', gr_mono (gr_rs q) (fun _ _ => DN.up e') fun _ _ _ _ => DXs.up e'⟩) fun _ _ _ z => DXs.one S z⟩⟩
/-- a plain name -/
theorem ss_set {x : Str} {pos' : Pos} (i : Nat) (hN : X.N.Nodup) (he : SE T X e f) (hi : X.N[i]? = some x := by rfl) (hx : Loc X.env.scope x := by first | exact Or.inl rfl | exact Or.inr rfl) (hs : swapsWith e (some (.Name x pos')) pos.line X.env = pure false := by rfl)
    (hf : X.fn x = true ∨ X.env.scope.names.lookup x = some .local := by first | exact .inl rfl | exact .inr rfl | assumption) : SS T X (.Assign [.Name x pos'] e pos) (esSet i f) := fun W tk => (ps_set hN hi hx (he W tk) hs hf).imp fun D σ H ⟨ι, hp, σi, R, S, P⟩ =>
  ⟨ι, hp, σi, R, S, wp_mono (st_wp P) (fun v h q ι' H' V' R' e' r' => q ι' H' _ R' e' ((S.up e').set r' i)) fun _ _ _ z => DXs.one S z⟩
def SGs (T : Tab) (X : Cx) (ts : List Expr) (f : EvGs) : Prop := ∀ W, Takes X W → PGs X ts (fun vs σ H Q => ∃ ι hp σi xs, Rel T ι hp H ∧ RSt T ι H σi σ ∧ RVs T ι H xs vs ∧ (f xs σi hp).wp (DN T ι H Q) (DXs T ι H W))
theorem sgs_n : SGs T X [] egsN := fun W tk => ⟨fun pins s σ H vs us Q I r ⟨ι, hp, σi, xs, R, S, rv, P⟩ => by
  unfold egsN at P
  split at P
  · cases rv; exact pgs_nil.run pins s σ H [] us Q I r ⟨rfl, P ι H σ R .refl S⟩
  · exact P.elim⟩
theorem sgs_c {es : List Expr} {g : EvG} {gr : EvGs} (h1 : SG T X e g) (h2 : SGs T X es gr) (hs : (assignEach (e :: es) X.env).map (·.2) = assign e X.env :: (assignEach es X.env).map (·.2) := by rfl) : SGs T X (e :: es) (egsC g gr) := fun W tk =>
  ⟨fun pins s σ H vs us Q I r ⟨ι, hp, σi, xs, R, S, rv, P⟩ => (pgs_cons (h1 W tk) (h2 W tk) hs).run pins s σ H vs us Q I r (by
    unfold egsC at P
    split at P
    · exact P.elim
    · cases rv with
      | cons rx rr =>
        refine ⟨_, _, rfl, ι, hp, σi, _, R, S, rx, gr_mono (gr_seq P) (fun σ1 h1 q ι' H' σ' R' e' S' => ?_) fun _ _ _ _ z => z⟩
        exact ⟨ι', h1, σ1, _, R', S', rr.up e', gr_mono q (fun _ _ => DN.up e') fun _ _ _ _ => DXs.up e'⟩)⟩
theorem sg_t {es : List Expr} {k : Nat} {n : Nat} {g : EvGs} (hK : X.K = T.K) (hc : X.calm = true) (h : SGs T X es g) (hn : (assignEach es X.env).length = n := by rfl) (hst : (assignEach es X.env).findIdx? (·.1) = none := by rfl) : SG T X (.Tuple es k pos) (egT n g) := fun W tk =>
  ⟨fun pins s σ H v u Q I r ⟨ι, hp, σi, x, R, S, rv, P⟩ => (pg_tup hc (h W tk) hn hst).run pins s σ H v u Q I r (by
    unfold egT at P
    split at P
    · rename_i xs
      cases q : Nat.beq xs.length n
      · rw [q] at P; exact P.elim
      · rw [q] at P
        cases rv with
        | tup h1 r1 => exact ⟨_, _, rfl, by rw [hK]; exact h1, by rw [← r1.length]; exact Nat.eq_of_beq_eq_true q, ι, hp, σi, _, R, S, r1, P⟩
    · exact P.elim)⟩
end
end SV
set_option maxHeartbeats 3999999
namespace SV
open PySem PySem.Spec
open PyProof.Rows L2

/-! ### what is walked -/
inductive NR where
  | yld (x : IV) | stop | bad
abbrev Nx := Nat → IHeap → NR
abbrev EvI := ISt → IHeap → Res Nx
structure SrcOk (T : Tab) (ι0 : List Addr) (H0 : Hp) (nx : Nx) (J : It) : Prop where
  go : ∀ (i : Nat) (ι : List Addr) (hp : IHeap) (H : Hp) (x : IV), Ext ι0 H0 ι H → Rel T ι hp H → nx i hp = .yld x → J.go i H ∧ ∀ V H', J.yld i H V H' → Rel T ι hp H' ∧ Ext ι H ι H' ∧ RV T ι H' x V
  stop : ∀ (i : Nat) (ι : List Addr) (hp : IHeap) (H : Hp), Ext ι0 H0 ι H → Rel T ι hp H → nx i hp = .stop → J.stop i H
theorem SrcOk.up {T : Tab} {ι0 ι1 : List Addr} {H0 H1 : Hp} {nx : Nx} {J : It} (e : Ext ι0 H0 ι1 H1) (h : SrcOk T ι0 H0 nx J) : SrcOk T ι1 H1 nx J :=
  ⟨fun i ι hp H x e' => h.go i ι hp H x (e.trans e'), fun i ι hp H e' => h.stop i ι hp H (e.trans e')⟩
def tI (T : Tab) (W : WX) (f : EvI) : TI := fun σ H R => ∃ ι hp σi, Rel T ι hp H ∧ RSt T ι H σi σ ∧ (f σi hp).wp (fun nx hp' => ∀ ι' H' J, Rel T ι' hp' H' → Ext ι H ι' H' → SrcOk T ι' H' nx J → R J H') (DX T ι H W σ)
def SI (T : Tab) (X : Cx) (tg iter : Expr) (f : EvI) : Prop := ∀ W, Takes X W → PI X tg iter (tI T W f)
theorem _root_.L2.PI.imp {X : Cx} {tg iter : Expr} {t t' : TI} (h : PI X tg iter t) (i : ∀ σ H R, t' σ H R → t σ H R) : PI X tg iter t' := ⟨fun pins s σ H R I q => h.run pins s σ H R I (i _ _ _ q)⟩

def nxSeq (xs : List IV) : Nx := fun i _ => match xs[i]? with
  | some x => .yld x
  | none => .stop
def nxLst (r : Nat) : Nx := fun i h => match h.items r with
  | some xs => (match xs[i]? with
    | some x => .yld x
    | none => .stop)
  | none => .bad
def nxRng (lo : Int) (n : Nat) : Nx := fun i _ => cond (Nat.blt i n) (.yld (.int (lo + i))) .stop
/-- a tuple, a list -/
def eiSeq (f : Ev) : EvI := fun σ h => (f σ h).bind fun v h1 => match v with
  | .tup xs => .ok (nxSeq xs) h1
  | .ref i => (match h1.items i with
    | some _ => .ok (nxLst i) h1
    | none => .bad)
  | _ => .bad
def rngOf (lo hi : Int) (h : IHeap) : Res Nx := cond (decide (-(2 ^ 62) ≤ lo) && decide (lo < 2 ^ 62) && decide (-(2 ^ 62) ≤ hi) && decide (hi < 2 ^ 62)) (.ok (nxRng lo (hi - lo).toNat) h) .bad
def eiRng1 (fa : Ev) : EvI := fun σ h => (fa σ h).bind fun v h1 => match v with
  | .int hi => rngOf 0 hi h1
  | _ => .bad
def eiRng2 (fa fb : Ev) : EvI := fun σ h => (fa σ h).bind fun v h1 => (fb σ h1).bind fun w h2 => match v, w with
  | .int lo, .int hi => rngOf lo hi h2
  | _, _ => .bad

section
variable {T : Tab} {X : Cx} {tg iter e a b : Expr} {pos p : Pos} {f fa fb : Ev} {fs : EvA} {W : WX}
theorem src_tup {ι : List Addr} {H : Hp} {a : Addr} {xs : List IV} {vs : List V} (hT : SqT T.K H a vs) (r : RVs T ι H xs vs) : SrcOk T ι H (nxSeq xs) (Itt T.K a) := by
  refine ⟨fun i ι1 hp H1 x e R q => ?_, fun i ι1 hp H1 e R q => ?_⟩
  · unfold nxSeq at q
    split at q
    · rename_i y hy
      cases q
      obtain ⟨v, hv, rv⟩ := r.get hy
      refine ⟨⟨vs, v, e.sqT hT, hv⟩, fun V H' y' => ?_⟩
      obtain ⟨rfl, h1⟩ := y'
      have := (h1 vs (e.sqT hT)).symm.trans hv
      cases this
      exact ⟨R, .refl, rv.up e⟩
    · cases q
  · unfold nxSeq at q
    split at q
    · cases q
    · rename_i hy
      exact ⟨vs, e.sqT hT, by rw [← r.length]; exact List.getElem?_eq_none_iff.mp hy⟩
theorem src_lst {ι : List Addr} {H : Hp} {r : Nat} {a : Addr} (ha : ι[r]? = some a) : SrcOk T ι H (nxLst r) (Itl T.K a) := by
  refine ⟨fun i ι1 hp H1 x e R q => ?_, fun i ι1 hp H1 e R q => ?_⟩
  · unfold nxLst at q
    split at q
    · rename_i xs hx
      split at q
      · rename_i y hy
        cases q
        obtain ⟨b, vs, eb, _, h1, r1⟩ := R.seq hx (.ref (e.at ha))
        cases eb
        obtain ⟨v, hv, rv⟩ := r1.get hy
        refine ⟨⟨vs, v, h1, hv⟩, fun V H' y' => ?_⟩
        obtain ⟨rfl, h2⟩ := y'
        have := (h2 vs h1).symm.trans hv
        cases this
        exact ⟨R, .refl, rv⟩
      · cases q
    · cases q
  · unfold nxLst at q
    split at q
    · rename_i xs hx
      split at q
      · cases q
      · rename_i hy
        obtain ⟨b, vs, eb, _, h1, r1⟩ := R.seq hx (.ref (e.at ha))
        cases eb
        exact ⟨vs, h1, by rw [← r1.length]; exact List.getElem?_eq_none_iff.mp hy⟩
    · cases q
theorem src_rng {ι : List Addr} {H : Hp} {lo : Int} {n : Nat} : SrcOk T ι H (nxRng lo n) (Itr lo n) := by
  refine ⟨fun i ι1 hp H1 x e R q => ?_, fun i ι1 hp H1 e R q => ?_⟩
  · unfold nxRng at q
    cases z : Nat.blt i n
    · rw [z] at q; cases q
    · rw [z] at q
      cases q
      refine ⟨Nat.le_of_ble_eq_true z, fun V H' y' => ?_⟩
      obtain ⟨rfl, rfl⟩ := y'
      exact ⟨R, .refl, .int _⟩
  · unfold nxRng at q
    cases z : Nat.blt i n
    · refine Nat.le_of_not_lt fun h => ?_
      have := Nat.ble_eq_true_of_le h
      unfold Nat.blt at z
      rw [this] at z; cases z
    · rw [z] at q; cases q
/-- a walk over a tuple, over a list, begins -/
theorem start_tup {pins : List (Addr × Obj)} {s : Shared} {σ : Sl} {H : Hp} {R : It → Hp → Prop} {a : Addr} {vs : List V} (I : Inv X pins σ H s) (h : SqT X.K H a vs) (q : R (Itt X.K a) H) : wpAny (model X.prog X.w) X.A (pyIter (.ref a)) (PIE X pins σ tg R) X.xe s :=
  let ⟨its, _, p, _⟩ := I.tuple h
  wpAny_pyIter_tuple (items := its.toArray) p (pi_one (tk := s.toks) I _ (turn_tuple a _) ⟨_, Heap.get?_push_size _ rfl, rfl, rfl⟩ q)
theorem start_lst {pins : List (Addr × Obj)} {s : Shared} {σ : Sl} {H : Hp} {R : It → Hp → Prop} {a : Addr} {vs : List V} (I : Inv X pins σ H s) (h : SqL X.K H a vs) (q : R (Itl X.K a) H) : wpAny (model X.prog X.w) X.A (pyIter (.ref a)) (PIE X pins σ tg R) X.xe s :=
  let ⟨_, _, p, _⟩ := I.list h
  wpAny_pyIter_list p.isList (pi_one (tk := s.toks) I _ (turn_list a _) ⟨_, Heap.get?_push_size _ rfl, rfl, rfl⟩ q)
/-- any expression whose value is a tuple or a list -/
theorem si_seq (hK : X.K = T.K) (h : SE T X e f) : SI T X tg e (eiSeq f) := fun W tk => ⟨fun pins s σ H R I ⟨ι, hp, σi, R0, S, P⟩ =>
  h.go tk I R0 S (wp_bind P) fun v s1 ι1 hp1 x V1 H1 I1 R1 e1 S1 r1 rv1 q1 => by
    split at q1
    · cases r1 with
      | tup h1 r1 =>
        cases rv1
        exact start_tup I1 (hK ▸ h1) (q1 ι1 H1 _ R1 e1 (hK ▸ src_tup h1 r1))
    · split at q1
      · rename_i ys hy
        obtain ⟨a, vs, rfl, ha, h1, r2⟩ := R1.seq hy r1
        cases rv1
        exact start_lst I1 (hK ▸ h1) (q1 ι1 H1 _ R1 e1 (hK ▸ src_lst ha))
      · exact q1.elim
    · exact q1.elim⟩
theorem rngOf_wp {lo hi : Int} {h : IHeap} {Qk : Nx → IHeap → Prop} {Qe : Nat → Fs → IHeap → Prop} (p : (rngOf lo hi h).wp Qk Qe) : (-(2 ^ 62) ≤ lo ∧ lo < 2 ^ 62 ∧ -(2 ^ 62) ≤ hi ∧ hi < 2 ^ 62) ∧ Qk (nxRng lo (hi - lo).toNat) h := by
  unfold rngOf at p
  cases z : decide (-(2 ^ 62) ≤ lo) && decide (lo < 2 ^ 62) && decide (-(2 ^ 62) ≤ hi) && decide (hi < 2 ^ 62)
  · rw [z] at p; exact p.elim
  · rw [z] at p
    simp only [Bool.and_eq_true_iff, decide_eq_true_eq] at z
    exact ⟨⟨z.1.1.1, z.1.1.2, z.1.2, z.2⟩, p⟩
theorem si_rng1 (hg : Gl X "range") (hm : X.mg "range" = none) (ha : SE T X a fa) (hs : starEach [a] X.env = [(false, eval a X.env)] := by rfl) : SI T X tg (.Call (.Name "range" p) [a] [] pos) (eiRng1 fa) := fun W tk =>
  (pi_range1 hg hm (pa_cons (ha W tk) pa_nil hs) hs).imp fun σ H R ⟨ι, hp, σi, R0, S, P⟩ => ⟨ι, hp, σi, R0, S, wp_mono (wp_bind P) (fun v h q ι' H' V' R' e' r' => by
    split at q
    · obtain ⟨⟨z1, z2, z3, z4⟩, q⟩ := rngOf_wp q
      cases r'
      refine ⟨_, rfl, z3, z4, ?_⟩
      have := q ι' H' _ R' e' src_rng
      rwa [Int.sub_zero] at this
    · exact q.elim) fun _ _ _ z => z⟩
theorem si_rng2 (hg : Gl X "range") (hm : X.mg "range" = none) (ha : SE T X a fa) (hb : SE T X b fb) (hs : starEach [a, b] X.env = [(false, eval a X.env), (false, eval b X.env)] := by rfl) (hs2 : starEach [b] X.env = [(false, eval b X.env)] := by rfl) :
    SI T X tg (.Call (.Name "range" p) [a, b] [] pos) (eiRng2 fa fb) := fun W tk =>
  (pi_range2 hg hm (pa_cons (ha W tk) (pa_cons (hb W tk) pa_nil hs2) (by rw [hs, hs2])) hs hs2).imp fun σ H R ⟨ι, hp, σi, R0, S, P⟩ => ⟨ι, hp, σi, R0, S, wp_mono (wp_bind P) (fun v h q ι1 H1 V1 R1 e1 r1 =>
    ⟨ι1, h, σi, R1, S.up e1, wp_mono (wp_bind q) (fun w h2 q2 ι2 H2 V2 R2 e2 r2 => by
      split at q2
      · obtain ⟨⟨z1, z2, z3, z4⟩, q2⟩ := rngOf_wp q2
        cases r1
        cases r2
        exact ⟨_, _, rfl, ⟨z1, z2, z3, z4⟩, q2 ι2 H2 _ R2 (e1.trans e2) src_rng⟩
      · exact q2.elim) fun _ _ _ => DX.up e1⟩) fun _ _ _ z => z⟩

/-! ### while -/
def whL (ft : EvT) (fb : EvS) : Nat → ISt → IHeap → RS
  | 0, _, _ => .bad
  | k + 1, σ, h => (ft σ h).st σ fun b h1 => cond b (match fb σ h1 with
      | .nx σ2 h2 => whL ft fb k σ2 h2
      | .ct σ2 h2 => whL ft fb k σ2 h2
      | .bk σ2 h2 => .nx σ2 h2
      | r => r) (.nx σ h1)
@[irreducible] def fuel : Nat := 1073741824
def esWh (ft : EvT) (fb : EvS) : EvS := fun σ h => whL ft fb fuel σ h
theorem ss_while {c : Expr} {body : List Stmt} {ft : EvT} {fb : EvS} (hp : PassesOwn (model X.prog X.w) X.A X.env X.xe) (hc : ST T X c ft) (hb : SSs T X body fb) : SS T X (.While c body [] pos) (esWh ft fb) := fun W tk =>
  (ps_while hp (hc W tk) (hb W tk)).imp fun D σ H ⟨ι, hp, σi, R, S, P⟩ =>
    ⟨fun m σ H => ∃ ι' hp' σi', Rel T ι' hp' H ∧ RSt T ι' H σi' σ ∧ wpD T W ι' H D (whL ft fb m σi' hp'), ⟨fuel, ι, hp, σi, R, S, P⟩, fun m σ1 H1 ⟨ι1, hp1, σi1, R1, S1, P1⟩ => by
      cases m with
      | zero => exact P1.elim
      | succ m =>
        refine ⟨ι1, hp1, σi1, R1, S1, wp_mono (st_wp P1) (fun b h q ι2 H2 R2 e2 => ?_) fun _ _ _ z => DXs.one S1 z⟩
        cases b with
        | false => exact q ι2 H2 σ1 R2 e2 (S1.up e2)
        | true =>
          refine ⟨fun σ' H' => ∃ ι' hp' σi', Rel T ι' hp' H' ∧ RSt T ι' H' σi' σ' ∧ wpD T W ι' H' D (whL ft fb m σi' hp'), fun σ' H' h => ⟨m, Nat.lt_succ_self m, h⟩, ι2, h, σi1, R2, S1.up e2, ?_⟩
          revert q
          show (match fb σi1 h with
            | .nx σ2 h2 => whL ft fb m σ2 h2
            | .ct σ2 h2 => whL ft fb m σ2 h2
            | .bk σ2 h2 => .nx σ2 h2
            | r => r : RS).wp _ _ _ _ _ → _
          cases fb σi1 h with
          | nx σ2 h2 => exact fun q ι3 H3 σ3 R3 e3 S3 => ⟨ι3, h2, σ2, R3, S3, wpD.up (e2.trans e3) q⟩
          | ct σ2 h2 => exact fun q ι3 H3 σ3 R3 e3 S3 => ⟨ι3, h2, σ2, R3, S3, wpD.up (e2.trans e3) q⟩
          | bk σ2 h2 => exact fun q => DN.up e2 q
          | rt v h2 => exact fun q => DV.up e2 q
          | er c fs σ2 h2 => exact fun q => DXs.up e2 q
          | bad => exact fun q => q⟩

/-! ### for -/
def forL (nx : Nx) (g : EvG) (fb : EvS) : Nat → Nat → ISt → IHeap → RS
  | 0, _, _, _ => .bad
  | k + 1, i, σ, h => match nx i h with
    | .bad => .bad
    | .stop => .nx σ h
    | .yld x => match g x σ h with
      | .nx σ1 h1 => (match fb σ1 h1 with
        | .nx σ2 h2 => forL nx g fb k (i + 1) σ2 h2
        | .ct σ2 h2 => forL nx g fb k (i + 1) σ2 h2
        | .bk σ2 h2 => .nx σ2 h2
        | r => r)
      | .er c fs σ1 h1 => .er c fs σ1 h1
      | .bad => .bad
def esFor (fi : EvI) (g : EvG) (fb : EvS) : EvS := fun σ h => (fi σ h).st σ fun nx h1 => forL nx g fb fuel 0 σ h1
theorem ss_for {body : List Stmt} {fi : EvI} {g : EvG} {fb : EvS} (hp : PassesOwn (model X.prog X.w) X.A X.env X.xe) (hc : X.calm = true) (hi : SI T X tg iter fi) (hg : SG T X tg g) (hb : SSs T X body fb) (hs : ∀ x, foldedSetIterable iter X.env x = pure x := by intro _; rfl) : SS T X (.For tg iter body [] pos) (esFor fi g fb) := fun W tk =>
  (ps_for hp hc (hi W tk) (hg W tk) (hb W tk) hs).imp fun D σ H ⟨ι, hp, σi, R, S, P⟩ => ⟨ι, hp, σi, R, S, wp_mono (st_wp P) (fun nx h q ι0 H0 J R0 e0 so => by
    refine ⟨fun i m σ H => ∃ ι' hp' σi', Rel T ι' hp' H ∧ Ext ι0 H0 ι' H ∧ RSt T ι' H σi' σ ∧ wpD T W ι' H D (forL nx g fb m i σi' hp'), ⟨fuel, ι0, h, σi, R0, .refl, S.up e0, wpD.up e0 q⟩, fun i m σ1 H1 ⟨ι1, hp1, σi1, R1, e1, S1, P1⟩ => ?_⟩
    cases m with
    | zero => exact P1.elim
    | succ m =>
      have P1 : wpD T W ι1 H1 D (match nx i hp1 with
        | .bad => .bad
        | .stop => .nx σi1 hp1
        | .yld x => match g x σi1 hp1 with
          | .nx σ1 h1 => (match fb σ1 h1 with
            | .nx σ2 h2 => forL nx g fb m (i + 1) σ2 h2
            | .ct σ2 h2 => forL nx g fb m (i + 1) σ2 h2
            | .bk σ2 h2 => .nx σ2 h2
            | r => r)
          | .er c fs σ1 h1 => .er c fs σ1 h1
          | .bad => .bad : RS) := P1
      cases z : nx i hp1 with
      | bad => rw [z] at P1; exact P1.elim
      | stop => rw [z] at P1; exact .inl ⟨so.stop i ι1 hp1 H1 e1 R1 z, P1 ι1 H1 σ1 R1 .refl S1⟩
      | yld x =>
        rw [z] at P1
        obtain ⟨hgo, hy⟩ := so.go i ι1 hp1 H1 x e1 R1 z
        refine .inr ⟨hgo, fun σ' H' => ∃ ι' hp' σi', Rel T ι' hp' H' ∧ Ext ι0 H0 ι' H' ∧ RSt T ι' H' σi' σ' ∧ wpD T W ι' H' D (forL nx g fb m (i + 1) σi' hp'), fun σ' H' h => ⟨m, Nat.lt_succ_self m, h⟩, fun V H2 yd => ?_⟩
        obtain ⟨R2, e2, r2⟩ := hy V H2 yd
        refine ⟨ι1, hp1, σi1, x, R2, S1.up e2, r2, ?_⟩
        revert P1
        show wpD T W ι1 H1 D (match g x σi1 hp1 with
          | .nx σ1 h1 => (match fb σ1 h1 with
            | .nx σ2 h2 => forL nx g fb m (i + 1) σ2 h2
            | .ct σ2 h2 => forL nx g fb m (i + 1) σ2 h2
            | .bk σ2 h2 => .nx σ2 h2
            | r => r)
          | .er c fs σ1 h1 => .er c fs σ1 h1
          | .bad => .bad : RS) → _
        cases g x σi1 hp1 with
        | bad => exact fun q => q
        | er c fs σ3 h3 => exact fun q => DXs.up e2 q
        | nx σ3 h3 =>
          intro q ι3 H3 σ4 R3 e3 S3
          refine ⟨ι3, h3, σ3, R3, S3, ?_⟩
          revert q
          show wpD T W ι1 H1 D (match fb σ3 h3 with
            | .nx σ2 h2 => forL nx g fb m (i + 1) σ2 h2
            | .ct σ2 h2 => forL nx g fb m (i + 1) σ2 h2
            | .bk σ2 h2 => .nx σ2 h2
            | r => r : RS) → _
          have e13 := e2.trans e3
          cases fb σ3 h3 with
          | nx σ2 h2 => exact fun q ι4 H4 σ5 R4 e4 S4 => ⟨ι4, h2, σ2, R4, (e1.trans e13).trans e4, S4, wpD.up (e13.trans e4) q⟩
          | ct σ2 h2 => exact fun q ι4 H4 σ5 R4 e4 S4 => ⟨ι4, h2, σ2, R4, (e1.trans e13).trans e4, S4, wpD.up (e13.trans e4) q⟩
          | bk σ2 h2 => exact fun q => DN.up e13 q
          | rt v h2 => exact fun q => DV.up e13 q
          | er c fs σ2 h2 => exact fun q => DXs.up e13 q
          | bad => exact fun q => q) fun _ _ _ z => DXs.one S z⟩

/-! ### list comprehensions -/
def wipI (σ : ISt) : List Nat → ISt
  | [] => σ
  | v :: vs => (wipI σ vs).set v none
theorem RSt.wip {ι : List Addr} {H : Hp} {σi : ISt} {σ : Sl} (S : RSt T ι H σi σ) : ∀ vs, RSt T ι H (wipI σi vs) (wipe σ vs)
  | [] => S
  | v :: vs => by
    have ih := S.wip vs
    refine ⟨by show ((wipI σi vs).set v none).length = ((wipe σ vs).set v none).length; rw [List.length_set, List.length_set, ih.len], fun j y q => ?_⟩
    have q : ((wipI σi vs).set v none)[j]? = some (some y) := q
    show ∃ w, ((wipe σ vs).set v none)[j]? = some (some w) ∧ _
    by_cases hj : j = v
    · subst hj
      by_cases hl : j < (wipI σi vs).length
      · rw [List.getElem?_set_self hl] at q; cases q
      · rw [List.getElem?_eq_none (by rw [List.length_set]; omega)] at q; cases q
    · rw [List.getElem?_set_ne (Ne.symm hj)] at q ⊢
      exact ih.get j y q
theorem wipe_none {σ : Sl} {i : Nat} : ∀ {vs : List Nat}, i ∈ vs → (wipe σ vs).set i none = wipe σ vs
  | [], h => by simp at h
  | w :: vs, h => by
    show ((wipe σ vs).set w none).set i none = (wipe σ vs).set w none
    by_cases e : i = w
    · subst e; rw [List.set_set]
    · rw [List.set_comm _ _ (Ne.symm e), wipe_none ((List.mem_cons.mp h).resolve_left e)]
theorem wipe_wipe {σ : Sl} (vs : List Nat) : wipe (wipe σ vs) vs = wipe σ vs := by
  have aux : ∀ us : List Nat, (∀ i ∈ us, i ∈ vs) → wipe (wipe σ vs) us = wipe σ vs := by
    intro us
    induction us with
    | nil => intro _; rfl
    | cons u us ih =>
      intro h
      show (wipe (wipe σ vs) us).set u none = wipe σ vs
      rw [ih fun i hi => h i (List.mem_cons_of_mem _ hi), wipe_none (h u List.mem_cons_self)]
  exact aux vs fun _ h => h
/-- a target of a comprehension: it stores into the block's own names alone -/
def tGo (T : Tab) (f : EvG) (vs : List Nat) : TG := fun v σ H Q => ∃ ι hp σi x, Rel T ι hp H ∧ RSt T ι H σi σ ∧ RV T ι H x v ∧ (f x σi hp).wp (DN T ι H fun σ' H' => wipe σ' vs = wipe σ vs → Q σ' H') (fun _ _ _ _ => False)
def SGo (T : Tab) (X : Cx) (tg : Expr) (vs : List Nat) (f : EvG) : Prop := PG X tg (tGo T f vs)
theorem wipe_set {σ : Sl} {i : Nat} {v : Option V} : ∀ {vs : List Nat}, i ∈ vs → wipe (σ.set i v) vs = wipe σ vs
  | [], h => by simp at h
  | w :: vs, h => by
    show (wipe (σ.set i v) vs).set w none = (wipe σ vs).set w none
    by_cases hm : i ∈ vs
    · rw [wipe_set hm]
    · have e : i = w := by
        exact (List.mem_cons.mp h).resolve_right hm
      subst e
      have aux : ∀ (us : List Nat) (τ : Sl), i ∉ us → wipe (τ.set i v) us = (wipe τ us).set i v := by
        intro us
        induction us with
        | nil => intro τ _; rfl
        | cons u us ih =>
          intro τ hu
          simp only [List.mem_cons, not_or] at hu
          show (wipe (τ.set i v) us).set u none = ((wipe τ us).set u none).set i v
          rw [ih τ hu.2, List.set_comm _ _ hu.1]
      rw [aux vs σ hm, List.set_set]
theorem sgo_n {x : Str} {vs : List Nat} (i : Nat) (hN : X.N.Nodup) (hm : i ∈ vs := by decide) (hi : X.N[i]? = some x := by rfl) (hx : Loc X.env.scope x := by first | exact Or.inl rfl | exact Or.inr rfl) (hf : X.fn x = true ∨ X.env.scope.names.lookup x = some .local := by first | exact .inl rfl | exact .inr rfl | assumption) : SGo T X (.Name x pos) vs (egN i) :=
  ⟨fun pins s σ H v u Q I r ⟨ι, hp, σi, xx, R, S, rv, P⟩ => (pg_name hN hi hx hf).run pins s σ H v u Q I r (P ι H _ R .refl (S.set rv i) (wipe_set hm))⟩
def SGos (T : Tab) (X : Cx) (ts : List Expr) (vs : List Nat) (f : EvGs) : Prop := PGs X ts (fun us σ H Q => ∃ ι hp σi xs, Rel T ι hp H ∧ RSt T ι H σi σ ∧ RVs T ι H xs us ∧ (f xs σi hp).wp (DN T ι H fun σ' H' => wipe σ' vs = wipe σ vs → Q σ' H') (fun _ _ _ _ => False))
theorem sgos_n {vs : List Nat} : SGos T X [] vs egsN := ⟨fun pins s σ H us ws Q I r ⟨ι, hp, σi, xs, R, S, rv, P⟩ => by
  unfold egsN at P
  split at P
  · cases rv; exact pgs_nil.run pins s σ H [] ws Q I r ⟨rfl, P ι H σ R .refl S rfl⟩
  · exact P.elim⟩
theorem sgos_c {es : List Expr} {vs : List Nat} {g : EvG} {gr : EvGs} (h1 : SGo T X e vs g) (h2 : SGos T X es vs gr) (hs : (assignEach (e :: es) X.env).map (·.2) = assign e X.env :: (assignEach es X.env).map (·.2) := by rfl) : SGos T X (e :: es) vs (egsC g gr) :=
  ⟨fun pins s σ H us ws Q I r ⟨ι, hp, σi, xs, R, S, rv, P⟩ => (pgs_cons h1 h2 hs).run pins s σ H us ws Q I r (by
    unfold egsC at P
    split at P
    · exact P.elim
    · cases rv with
      | cons rx rr =>
        refine ⟨_, _, rfl, ι, hp, σi, _, R, S, rx, gr_mono (gr_seq P) (fun σ1 h1 q ι' H' σ' R' e' S' ew => ?_) fun _ _ _ _ z => z⟩
        exact ⟨ι', h1, σ1, _, R', S', rr.up e', gr_mono q (fun _ _ q ι2 H2 σ2 R2 e2 S2 ew2 => q ι2 H2 σ2 R2 (e'.trans e2) S2 (ew2.trans ew)) fun _ _ _ _ z => z⟩)⟩
theorem sgo_t {es : List Expr} {k : Nat} {n : Nat} {vs : List Nat} {g : EvGs} (hK : X.K = T.K) (hc : X.calm = true) (h : SGos T X es vs g) (hn : (assignEach es X.env).length = n := by rfl) (hst : (assignEach es X.env).findIdx? (·.1) = none := by rfl) : SGo T X (.Tuple es k pos) vs (egT n g) :=
  ⟨fun pins s σ H v u Q I r ⟨ι, hp, σi, x, R, S, rv, P⟩ => (pg_tup hc h hn hst).run pins s σ H v u Q I r (by
    unfold egT at P
    split at P
    · rename_i xs
      cases q : Nat.beq xs.length n
      · rw [q] at P; exact P.elim
      · rw [q] at P
        cases rv with
        | tup h1 r1 => exact ⟨_, _, rfl, by rw [hK]; exact h1, by rw [← r1.length]; exact Nat.eq_of_beq_eq_true q, ι, hp, σi, _, R, S, r1, P⟩
    · exact P.elim)⟩
/-- the tests of a clause -/
def SPT (T : Tab) (X : Cx) (ifs : List Expr) (f : EvT) : Prop := PTs X ifs (tT T (fun _ _ _ _ => False) f)
def etYes : EvT := fun _ h => .ok true h
theorem spt_nil : SPT T X [] etYes := ⟨fun pins s σ H Q I ⟨ι, hp, σi, R, S, P⟩ => wpAny_tests_nil ⟨H, I, P ι H R .refl⟩⟩
theorem spt_one {c : Expr} {ft : EvT} (h : ST T X c ft) (tk : Takes X (fun _ _ _ _ => False)) : SPT T X [c] ft := pts_one (h _ tk)

def noErr {α : Type} (r : Res α) : Res α := match r with
  | .ok a h => .ok a h
  | _ => .bad
def lcL (D : Nat) (nx : Nx) (g : EvG) (ft : EvT) (fe : Ev) (σ : ISt) (vs : List Nat) : Nat → Nat → IHeap → Res IV
  | 0, _, _ => .bad
  | k + 1, i, h => match nx i h with
    | .bad => .bad
    | .stop => .ok (.ref D) h
    | .yld x => match g x (wipI σ vs) h with
      | .nx σ1 h1 => (match ft σ1 h1 with
        | .ok true h2 => (match fe σ1 h2 with
          | .ok y h3 => (match h3.get D with
            | some (.lst acc) => cond (Nat.blt acc.length sizeLine) (lcL D nx g ft fe σ vs k (i + 1) (h3.put D (.lst (acc ++ [y])))) .bad
            | _ => .bad)
          | _ => .bad)
        | .ok false h2 => lcL D nx g ft fe σ vs k (i + 1) h2
        | _ => .bad)
      | _ => .bad
def evLC (fi : EvI) (g : EvG) (ft : EvT) (fe : Ev) (vs : List Nat) : Ev := fun σ h => (fi σ h).bind fun nx h1 => lcL h1.n nx g ft fe σ vs fuel 0 (h1.add (.lst []))

theorem lc_turns {ι0 : List Addr} {H0 : Hp} {nx : Nx} {J : It} {g : EvG} {ft : EvT} {fe : Ev} {vs : List Nat} {σ : Sl} {σi : ISt} {D : Nat} {Da : Addr} {Q : VK} (hD : ι0[D]? = some Da) (S : RSt T ι0 H0 σi σ) (so : SrcOk T ι0 H0 nx J) (hp0 : IHeap) (R0 : Rel T ι0 hp0 H0)
    (P0 : (lcL D nx g ft fe σi vs fuel 0 hp0).wp (DV T ι0 H0 Q) (fun _ _ _ => False)) :
    ∃ W : Nat → Nat → Hp → Prop, (∃ m, W 0 m H0) ∧ ∀ i m H, W i m H →
      (J.stop i H ∧ Q (.ref Da) H) ∨ (J.go i H ∧ ∃ Nx : Hp → Prop, (∀ H', Nx H' → ∃ m', m' < m ∧ W (i + 1) m' H') ∧ ∀ x H', J.yld i H x H' → tGo T g vs x (wipe σ vs) H' fun σ2 H2 => wipe σ2 vs = wipe σ vs ∧ tT T (fun _ _ _ _ => False) ft σ2 H2 fun b H3 =>
        if b = true then tE T (fun _ _ _ _ => False) fe σ2 H3 fun y H4 => ∃ acc, H4 Da = some (.lst acc) ∧ acc.length < sizeLine ∧ Nx (upd H4 Da (.lst (acc ++ [y]))) else Nx H3) := by
  refine ⟨fun i m H => ∃ ι' hp', Rel T ι' hp' H ∧ Ext ι0 H0 ι' H ∧ (lcL D nx g ft fe σi vs m i hp').wp (DV T ι' H Q) (fun _ _ _ => False), ⟨fuel, ι0, hp0, R0, .refl, P0⟩, fun i m H1 ⟨ι1, hp1, R1, e1, P1⟩ => ?_⟩
  cases m with
  | zero => exact P1.elim
  | succ m =>
    have P1 : (match nx i hp1 with
      | .bad => .bad
      | .stop => .ok (.ref D) hp1
      | .yld x => match g x (wipI σi vs) hp1 with
        | .nx σ1 h1 => (match ft σ1 h1 with
          | .ok true h2 => (match fe σ1 h2 with
            | .ok y h3 => (match h3.get D with
              | some (.lst acc) => cond (Nat.blt acc.length sizeLine) (lcL D nx g ft fe σi vs m (i + 1) (h3.put D (.lst (acc ++ [y])))) .bad
              | _ => .bad)
            | _ => .bad)
          | .ok false h2 => lcL D nx g ft fe σi vs m (i + 1) h2
          | _ => .bad)
        | _ => .bad : Res IV).wp (DV T ι1 H1 Q) (fun _ _ _ => False) := P1
    cases z : nx i hp1 with
    | bad => rw [z] at P1; exact P1.elim
    | stop => rw [z] at P1; exact .inl ⟨so.stop i ι1 hp1 H1 e1 R1 z, P1 ι1 H1 _ R1 .refl (.ref (e1.at hD))⟩
    | yld x =>
      rw [z] at P1
      obtain ⟨hgo, hy⟩ := so.go i ι1 hp1 H1 x e1 R1 z
      refine .inr ⟨hgo, fun H' => ∃ ι' hp', Rel T ι' hp' H' ∧ Ext ι0 H0 ι' H' ∧ (lcL D nx g ft fe σi vs m (i + 1) hp').wp (DV T ι' H' Q) (fun _ _ _ => False), fun H' h => ⟨m, Nat.lt_succ_self m, h⟩, fun V H2 yd => ?_⟩
      obtain ⟨R2, e2, r2⟩ := hy V H2 yd
      refine ⟨ι1, hp1, wipI σi vs, x, R2, (S.up (e1.trans e2)).wip vs, r2, ?_⟩
      revert P1
      show (match g x (wipI σi vs) hp1 with
        | .nx σ1 h1 => (match ft σ1 h1 with
          | .ok true h2 => (match fe σ1 h2 with
            | .ok y h3 => (match h3.get D with
              | some (.lst acc) => cond (Nat.blt acc.length sizeLine) (lcL D nx g ft fe σi vs m (i + 1) (h3.put D (.lst (acc ++ [y])))) .bad
              | _ => .bad)
            | _ => .bad)
          | .ok false h2 => lcL D nx g ft fe σi vs m (i + 1) h2
          | _ => .bad)
        | _ => .bad : Res IV).wp (DV T ι1 H1 Q) (fun _ _ _ => False) → _
      cases g x (wipI σi vs) hp1 with
      | bad => exact fun q => q
      | er c fs σ3 h3 => exact fun q => q
      | nx σ3 h3 =>
        intro q ι3 H3 σ4 R3 e3 S3 ew
        refine ⟨ew.trans (wipe_wipe vs), ι3, h3, σ3, R3, S3, ?_⟩
        have e13 := e2.trans e3
        revert q
        show (match ft σ3 h3 with
          | .ok true h2 => (match fe σ3 h2 with
            | .ok y h3 => (match h3.get D with
              | some (.lst acc) => cond (Nat.blt acc.length sizeLine) (lcL D nx g ft fe σi vs m (i + 1) (h3.put D (.lst (acc ++ [y])))) .bad
              | _ => .bad)
            | _ => .bad)
          | .ok false h2 => lcL D nx g ft fe σi vs m (i + 1) h2
          | _ => .bad : Res IV).wp (DV T ι1 H1 Q) (fun _ _ _ => False) → _
        cases ft σ3 h3 with
        | bad => exact fun q => q.elim
        | err c fs h4 => exact fun q => q.elim
        | ok b h4 =>
          cases b with
          | false =>
            intro q ι4 H4 R4 e4
            show _
            rw [if_neg (by decide)]
            exact ⟨ι4, h4, R4, (e1.trans e13).trans e4, wp_mono q (fun _ _ => DV.up (e13.trans e4)) fun _ _ _ z => z⟩
          | true =>
            intro q ι4 H4 R4 e4
            rw [if_pos rfl]
            refine ⟨ι4, h4, σ3, R4, S3.up e4, ?_⟩
            revert q
            show (match fe σ3 h4 with
              | .ok y h3 => (match h3.get D with
                | some (.lst acc) => cond (Nat.blt acc.length sizeLine) (lcL D nx g ft fe σi vs m (i + 1) (h3.put D (.lst (acc ++ [y])))) .bad
                | _ => .bad)
              | _ => .bad : Res IV).wp (DV T ι1 H1 Q) (fun _ _ _ => False) → _
            cases fe σ3 h4 with
            | bad => exact fun q => q.elim
            | err c fs h5 => exact fun q => q.elim
            | ok y h5 =>
              intro q ι5 H5 V5 R5 e5 r5
              have e15 := (e13.trans e4).trans e5
              revert q
              show (match h5.get D with
                | some (.lst acc) => cond (Nat.blt acc.length sizeLine) (lcL D nx g ft fe σi vs m (i + 1) (h5.put D (.lst (acc ++ [y])))) .bad
                | _ => .bad : Res IV).wp (DV T ι1 H1 Q) (fun _ _ _ => False) → _
              intro q
              split at q
              · rename_i acc hacc
                cases hb : Nat.blt acc.length sizeLine with
                | false => rw [hb] at q; exact q.elim
                | true =>
                  rw [hb] at q
                  obtain ⟨a5, vacc, ea, ha5, hH5, racc⟩ := R5.lst hacc (.ref ((e1.trans e15).at hD))
                  cases ea
                  have hlt : acc.length < sizeLine := Nat.le_of_ble_eq_true hb
                  refine ⟨vacc, hH5, by rw [← racc.length]; exact hlt, ι5, h5.put D (.lst (acc ++ [y])), ?_, ?_, ?_⟩
                  · have ew : Ext ι5 H5 ι5 (upd H5 Da (.lst (vacc ++ [V5]))) := Ext.wr hH5 (fun _ z => nomatch z) fun _ _ z => nomatch z
                    exact R5.put hacc rfl ((e1.trans e15).at hD) ew rfl ⟨_, upd_same, (racc.append (.cons r5 .nil)).up ew⟩
                  · exact ((e1.trans e15).trans (Ext.wr hH5 (fun _ z => nomatch z) fun _ _ z => nomatch z))
                  · exact wp_mono q (fun _ _ => DV.up (e15.trans (Ext.wr hH5 (fun _ z => nomatch z) fun _ _ z => nomatch z))) fun _ _ _ z => z
              · exact q.elim
theorem lc_wp {D : Nat} {nx : Nx} {g : EvG} {ft : EvT} {fe : Ev} {σi : ISt} {vs : List Nat} {Qk : IV → IHeap → Prop} {Qe : Nat → Fs → IHeap → Prop} : ∀ (k i : Nat) (h : IHeap), (lcL D nx g ft fe σi vs k i h).wp Qk Qe → (lcL D nx g ft fe σi vs k i h).wp Qk (fun _ _ _ => False)
  | 0, _, _, p => p
  | k + 1, i, h, p => by
    unfold lcL at p ⊢
    cases z : nx i h with
    | bad => rw [z] at p; exact p
    | stop => rw [z] at p; exact p
    | yld x =>
      rw [z] at p
      simp only at p ⊢
      split at p
      · split at p
        · split at p
          · split at p
            · rename_i acc hacc
              cases hb : Nat.blt acc.length sizeLine with
              | false => rw [hb] at p; exact p.elim
              | true =>
                rw [hb] at p
                exact lc_wp k _ _ p
            · exact p.elim
          · exact p.elim
        · exact lc_wp k _ _ p
        · exact p.elim
      · exact p.elim
section
variable {elt : Expr} {ifs : List Expr} {scope : Scope} {own : List (Str × Nat)} {fi : EvI} {g : EvG} {ft : EvT} {fe : Ev}
theorem lc_imp {σ : Sl} {H : Hp} {Q : VK} (h : tE T W (evLC fi g ft fe (own.map (·.2))) σ H Q) : tLc (tI T W fi) (tGo T g (own.map (·.2))) (tT T (fun _ _ _ _ => False) ft) (tE T (fun _ _ _ _ => False) fe) (own.map (·.2)) σ H Q := by
  obtain ⟨ι, hp, σi, R, S, P⟩ := h
  refine ⟨ι, hp, σi, R, S, wp_mono (wp_bind P) (fun nx h1 q ι1 H1 J R1 e1 so D hD => ?_) fun _ _ _ z => z⟩
  obtain ⟨R2, e2, r2⟩ := R1.newLst (xs := []) (vs := []) hD .nil
  cases r2 with
  | ref hDi => exact lc_turns hDi (S.up (e1.trans e2)) (so.up e2) _ R2 (wp_mono (lc_wp _ _ _ q) (fun _ _ => DV.up (e1.trans e2)) fun _ _ _ z => z)
theorem se_lc (hc : X.calm = true) (hN : X.N.Nodup) (hi : SI T X tg iter fi) (ok : BlkOk X.N X.env.scope scope own)
    (hg : ∀ (s : Shared) (H : Hp) (C : Addr) (cl : List (Str × Addr)) (fp : List Addr), SGo T (X.blk s H scope (compEnvC scope cl C X.env) fp) tg (own.map (·.2)) g) (ht : ∀ (s : Shared) (H : Hp) (C : Addr) (cl : List (Str × Addr)) (fp : List Addr), SPT T (X.blk s H scope (compEnvC scope cl C X.env) fp) ifs ft)
    (he : ∀ (s : Shared) (H : Hp) (C : Addr) (cl : List (Str × Addr)) (fp : List Addr), SE T (X.blk s H scope (compEnvC scope cl C X.env) fp) elt fe) (hs : ∀ x, foldedSetIterable iter X.env x = pure x := by intro _; rfl) :
    SE T X (.ListComp elt [⟨tg, iter, ifs, 0⟩] scope pos) (evLC fi g ft fe (own.map (·.2))) := fun W tk =>
  (pe_lc hc hN (hi W tk) ok hg ht (fun s H C cl fp => he s H C cl fp _ takes0) hs).imp fun σ H Q h => lc_imp h
theorem ss_setLc {y : Str} {py spos : Pos} (i : Nat) (hc : X.calm = true) (hN : X.N.Nodup) (hi : SI T X tg iter fi) (ok : BlkOk X.N X.env.scope scope own)
    (hg : ∀ (s : Shared) (H : Hp) (C : Addr) (cl : List (Str × Addr)) (fp : List Addr), SGo T (X.blk s H scope (compEnvC scope cl C X.env) fp) tg (own.map (·.2)) g) (ht : ∀ (s : Shared) (H : Hp) (C : Addr) (cl : List (Str × Addr)) (fp : List Addr), SPT T (X.blk s H scope (compEnvC scope cl C X.env) fp) ifs ft)
    (he : ∀ (s : Shared) (H : Hp) (C : Addr) (cl : List (Str × Addr)) (fp : List Addr), SE T (X.blk s H scope (compEnvC scope cl C X.env) fp) elt fe)
    (hsw : swapsWith (.ListComp elt [⟨tg, iter, ifs, 0⟩] scope pos) (some (.Name y py)) spos.line X.env = pure true) (hy : X.N[i]? = some y := by rfl) (hyl : X.env.scope.names.lookup y = some .local := by rfl) (hs : ∀ x, foldedSetIterable iter X.env x = pure x := by intro _; rfl) :
    SS T X (.Assign [.Name y py] (.ListComp elt [⟨tg, iter, ifs, 0⟩] scope pos) spos) (esSet i (evLC fi g ft fe (own.map (·.2)))) := fun W tk =>
  (ps_setLc hc hN hy hyl hsw (hi W tk) ok hg ht (fun s H C cl fp => he s H C cl fp _ takes0) hs).imp fun D σ H ⟨ι, hp, σi, R, S, P⟩ =>
    lc_imp ⟨ι, hp, σi, R, S, wp_mono (st_wp P) (fun v h q ι' H' V' R' e' r' => q ι' H' _ R' e' ((S.up e').set r' i)) fun _ _ _ z => DXs.one S z⟩
end
end
end SV
set_option maxHeartbeats 3999999
namespace SV
open PySem PySem.Spec
open PyProof.Rows L2

/-! ### defs -/
def spR (T : Tab) (g : List IV → IHeap → Res IV) : Sp := fun vs H Q E => ∃ ι hp xs, Rel T ι hp H ∧ RVs T ι H xs vs ∧ (g xs hp).wp (DV T ι H Q) (fun c fs hp' => ∀ ι' H' d, Rel T ι' hp' H' → Ext ι H ι' H' → XF T ι' H' fs d → E (T.xc c) d H')
def FnS (T : Tab) (P : Program) (w : World) (mg : Str → Option Value) (base : Heap) (k : Nat) (f : Addr) (g : List IV → IHeap → Res IV) : Prop := FnR P w T.K mg base (L2.CX P w) k f (spR T g)
def endF (r : RS) : Res IV := match r with
  | .nx _ h => .ok .non h
  | .rt v h => .ok v h
  | .er c fs _ h => .err c fs h
  | _ => .bad
/-- a def with n parameters (all given) and m slots -/
def evFn (n m : Nat) (body : EvS) : List IV → IHeap → Res IV := fun xs h => cond (Nat.beq xs.length n) (endF (body (xs.map some ++ List.replicate (m - n) none) h)) .bad
theorem RSt.start {T : Tab} {ι : List Addr} {H : Hp} {xs : List IV} {vs : List V} (r : RVs T ι H xs vs) (N : List Str) : RSt T ι H (xs.map some ++ List.replicate (N.length - xs.length) none) (L2.start N vs) := by
  have hl := r.length
  refine ⟨by unfold L2.start; simp [hl], fun i x q => ?_⟩
  unfold L2.start
  by_cases hi : i < xs.length
  · rw [List.getElem?_append_left (by simpa using hi), List.getElem?_map] at q
    obtain ⟨y, h1, h2⟩ := Option.map_eq_some_iff.mp q
    cases h2
    obtain ⟨v, h3, h4⟩ := r.get h1
    exact ⟨v, by rw [List.getElem?_append_left (by simpa [← hl] using hi), List.getElem?_map, h3]; rfl, h4⟩
  · rw [List.getElem?_append_right (by simpa using hi), List.getElem?_replicate] at q
    split at q <;> cases q
section
variable {T : Tab} {P : Program} {w : World} {mg : Str → Option Value} {base : Heap}
/-- a def of the text: its body -/
theorem fn_ok {x qual : Str} {st : Stmt} {f : Addr} {fd : FuncData} {N ps : List Str} {k : Nat} {b : EvS} (F : Fun T.K x qual st f fd) (S : FnScope N ps (defScope st))
    (hbody : ∀ (cdv : Value) (A : Around) (outer : List Env) (s : Shared) (H : Hp) (E : XK), Room k (A.deeper (envOfC qual (defScope st) s.heap.objs.size f cdv)) → SSs T (cxOf (L2.CX P w) P w T.K mg base N qual (defScope st) f cdv A outer s H E) (defBody st) b) :
    FnOk P w T.K mg base (L2.CX P w) (k + 1) f fd ps (fun vs H Q E => vs.length = ps.length ∧ spR T (evFn ps.length N.length b) vs H Q E) := by
  refine F.okX S (fun vs H Q E h => h.1) fun cdv A outer s H vs Q E hr ⟨hl, ι, hp, xs, R, rv, q⟩ => ?_
  refine ⟨_, hbody cdv A outer s H E hr (fun cls d _ H' => E cls d H') (takes_of rfl rfl rfl rfl), ι, hp, xs.map some ++ List.replicate (N.length - xs.length) none, R, RSt.start rv N, ?_⟩
  unfold evFn at q
  have e1 : xs.length = ps.length := rv.length.trans hl
  rw [e1, show Nat.beq ps.length ps.length = true from by simp] at q
  rw [e1]
  revert q
  show (endF (b (xs.map some ++ List.replicate (N.length - ps.length) none) hp)).wp _ _ → wpD T _ ι H _ (b (xs.map some ++ List.replicate (N.length - ps.length) none) hp)
  cases b (xs.map some ++ List.replicate (N.length - ps.length) none) hp with
  | nx σ h => exact fun q ι' H' σ' R' e' S' => q ι' H' _ R' e' .non
  | rt v h => exact fun q => q
  | bk _ _ => exact fun q => q.elim
  | ct _ _ => exact fun q => q.elim
  | er c fs σ h => exact fun q ι' H' d σ' R' e' S' xf => q ι' H' d R' e' xf
  | bad => exact fun q => q
theorem evFn_len {n m : Nat} {b : EvS} {xs : List IV} {h : IHeap} {Qk : IV → IHeap → Prop} {Qe : Nat → Fs → IHeap → Prop} (p : (evFn n m b xs h).wp Qk Qe) : xs.length = n := by
  unfold evFn at p
  cases q : Nat.beq xs.length n
  · rw [q] at p; exact p.elim
  · exact Nat.eq_of_beq_eq_true q
/-- .. called with positional arguments, none left out -/
theorem fn_raw {f : Addr} {fd : FuncData} {ps : List Str} {k : Nat} {m : Nat} {b : EvS} (F : FnOk P w T.K mg base (L2.CX P w) k f fd ps (fun vs H Q E => vs.length = ps.length ∧ spR T (evFn ps.length m b) vs H Q E)) (hb : Binds T.K fd ps []) : FnS T P w mg base k f (evFn ps.length m b) :=
  (F.raw hb (dvs := []) .nil).imp fun vs H Q E ⟨ι, hp, xs, R, rv, q⟩ => by
    rw [List.append_nil]
    exact ⟨by rw [← rv.length]; exact evFn_len q, ι, hp, xs, R, rv, q⟩
theorem FnS.mono {j k : Nat} {f : Addr} {g : List IV → IHeap → Res IV} (F : FnS T P w mg base j f g) (h : j ≤ k) : FnS T P w mg base k f g := FnR.mono F h
end

/-- a call with the keywords' values (names ks) behind the plain ones -/
def FnK (T : Tab) (P : Program) (w : World) (mg : Str → Option Value) (base : Heap) (k : Nat) (f : Addr) (ks : List Str) (g : List IV → List IV → IHeap → Res IV) : Prop :=
  ∀ (A : Around) (outer : List Env) (s : Shared) (H : Hp) (us ws : List Value) (vs zs : List V) (Q : VK) (E : XK), Room k A → Env0 P w T.K mg base A outer s H → Vals vs us → Vals zs ws → zs.length = ks.length →
    (∃ ι hp xs ys, Rel T ι hp H ∧ RVs T ι H xs vs ∧ RVs T ι H ys zs ∧ (g xs ys hp).wp (DV T ι H Q) (fun c fs hp' => ∀ ι' H' d, Rel T ι' hp' H' → Ext ι H ι' H' → XF T ι' H' fs d → E (T.xc c) d H')) →
    codeAny (model P w) A (.call (.ref f) ⟨us, ks.zip ws⟩) (CR (L2.CX P w) outer P w H s Q E) s
/-- no keywords: what lacks is filled up by the defaults -/
theorem FnK.plain {T : Tab} {P : Program} {w : World} {mg : Str → Option Value} {base : Heap} {k : Nat} {f : Addr} {g : List IV → List IV → IHeap → Res IV} (F : FnK T P w mg base k f [] g) : FnS T P w mg base k f (fun xs => g xs []) :=
  fun A outer s H us vs Q E hr e0 r ⟨ι, hp, xs, R, rv, q⟩ => F A outer s H us [] vs [] Q E hr e0 r .nil rfl ⟨ι, hp, xs, [], R, rv, .nil, q⟩
/-! ### what a body knows -/
inductive Att where
  | no | fld | prop (g : Nat) | meth (g : Nat)
/-- a dict of the module: texts to texts -/
def sfind (z : Str) : List (Str × Str) → Option Str
  | [] => none
  | (k, v) :: r => cond (decide (k = z)) (some v) (sfind z r)
structure KdOk (K : PySem.W.Frag) (w : World) (d : Addr) (l : List (Str × Str)) : Prop where
  k : ∃ es n, KDict K w d es n
  f : ∀ z, (∀ v, sfind z l = some v → ∃ t, PySem.W.nsIn K d z = some (some (.str v t))) ∧ (sfind z l = none → PySem.W.nsIn K d z = some none)
structure Pg where
  cl : Nat → List IV → IHeap → Res IV
  att : Nat → Nat → Att
  ini : Nat → Option Nat
  /-- isinstance by codes: below 10 a built-in type, from 10 on an own class -/
  isi : Nat → Nat → Option Bool
  kio : Nat → Bool
  /-- a class's own == comes first beside a type -/
  nf : Nat → Nat → Bool
  /-- is an exception of the first caught by the second (an own class) -/
  exm : Nat → Nat → Option Bool
  kd : Nat → List (Str × Str)
  /-- ways to call with keywords or with fewer values: the def, the keywords' names, what comes of it -/
  pat : Nat → Nat × List Str
  ck : Nat → List IV → List IV → IHeap → Res IV
def tyc (T : Tab) (t : Nat) : Value := cond (Nat.blt t 10) (.type (tagN t)) (.ref (T.ca (t - 10)))
abbrev clsB : Value := .builtin "object.__class__"
structure OwnK (K : PySem.W.Frag) (C : Addr) : Prop where
  cl : Cls K C
  /-- where __class__ is found, how it is read, that it is data, and that the class stands on object -/
  cls : PySem.W.findIn K (.ref C) "__class__" = some (some clsB) ∧ PySem.W.specialIn K clsB "__get__" = some (some (.builtin "getset_descriptor.__get__")) ∧ PySem.W.takesIn K clsB = some true ∧ PySem.W.mroIn K C (.type "object") = some true
def AttOk (T : Tab) (C : Addr) (f : Str) : Att → Prop
  | .no => True
  | .fld => Cls T.K C ∧ NoAttr T.K C f
  | .prop g => Cls T.K C ∧ ∃ p, PropOf T.K C f p (T.fa g)
  | .meth g => Cls T.K C ∧ Meth T.K C f (T.fa g)
structure Bd (T : Tab) (X : Cx) (p : Pg) (d : Nat) : Prop where
  K : X.K = T.K
  calm : X.calm = true
  room : Room (5 * d + 1) X.A
  nd : X.N.Nodup
  fn : ∀ f, FnS T X.prog X.w X.mg X.base (5 * d) (T.fa f) (p.cl f)
  att : ∀ c m, AttOk T (T.ca c) (T.nm m) (p.att c m)
  ini : ∀ c f, p.ini c = some f → Mk T.K (T.ca c) (T.fa f)
  isi : ∀ a b r, p.isi a b = some r → PySem.W.kitOne T.K (tyc T a) (tyc T b) = some r
  kio : ∀ c, p.kio c = true → OwnK T.K (T.ca c)
  nf : ∀ c t, p.nf c t = true → PySem.W.notFirst T.K (T.ca c) (tyc T t) = true
  exm : ∀ a b r, p.exm a b = some r → PySem.W.exmOne T.K (T.xc a) (.ref (T.ca b)) = some r
  kd : ∀ k, p.kd k ≠ [] → KdOk T.K X.w (T.kd k) (p.kd k)
  fk : ∀ j, FnK T X.prog X.w X.mg X.base (5 * d) (T.fa (p.pat j).1) (p.pat j).2 (p.ck j)
  hP : X.prog = T.P
  hw : X.w = T.w
  hu : X.A.units + 80 < cLine
theorem Bd.blk {T : Tab} {X : Cx} {p : Pg} {d : Nat} (B : Bd T X p d) {s : Shared} {H : Hp} {scope : Scope} {ce : Env} {fp : List Addr} : Bd T (X.blk s H scope ce fp) p d := ⟨B.K, B.calm, B.room, B.nd, B.fn, B.att, B.ini, B.isi, B.kio, B.nf, B.exm, B.kd, B.fk, B.hP, B.hw, B.hu⟩

section
variable {T : Tab} {X : Cx} {p : Pg} {d : Nat} {W : WX} {pins : List (Addr × Obj)} {s : Shared} {σ : Sl} {σi : ISt} {ι : List Addr} {hp : IHeap} {H : Hp} {Q : VK}
/-- a def is called -/
theorem run_s {f : Addr} {g : List IV → IHeap → Res IV} {k : Nat} {xs : List IV} {vs : List V} {us : List Value} (hK : X.K = T.K) (F : FnS T X.prog X.w X.mg X.base k f g) (hr : Room k X.A) (tk : Takes X W) (I : Inv X pins σ H s) (R : Rel T ι hp H) (rv : RVs T ι H xs vs) (r : Vals vs us)
    (P : (g xs hp).wp (DV T ι H Q) (DX T ι H W σ)) : codeAny (model X.prog X.w) X.A (.call (.ref f) ⟨us, []⟩) (fun r s' => match r with | .ok (.ret v) => EP X pins σ Q v s' | .ok _ => False | .error e => X.xe e s') s := by
  refine codeAny_mono (F X.A X.stack s H us vs Q (fun c d' H' => W c d' σ H') hr (hK ▸ I.env0) r ⟨ι, hp, xs, R, rv, P⟩) fun r s' hq => ?_
  cases r with
  | error e => exact tk e s' (XE.of_call I (fun _ _ _ h => h) hq)
  | ok fl =>
    cases fl with
    | ret u => exact I.after hq
    | next => exact False.elim hq
    | brk => exact False.elim hq
    | cont => exact False.elim hq
theorem call_s {f : Addr} {g : List IV → IHeap → Res IV} {k : Nat} (hK : X.K = T.K) (F : FnS T X.prog X.w X.mg X.base k f g) (hr : Room k X.A) : CallS T X (.ref f) g := fun W tk pins s σ H vs us Q ι hp xs I r R rv P =>
  wpAny_call (run_s hK F hr tk I R rv r P)
/-- x(e, ..), x a def of the module -/
theorem se_call {x : Str} {e : Expr} {es : List Expr} {q pos : Pos} {fs : EvA} (f : Nat) (B : Bd T X p d) (hg : Gl X x) (hm : X.mg x = some (.ref (T.fa f))) (hk : PySem.W.keepIn T.K (.ref (T.fa f)) = true) (ha : SA T X (e :: es) fs) (hdb : (x == ("__debug__" : Str)) = false := by decide)
    (he : starEach (e :: es) X.env = (false, eval e X.env) :: starEach es X.env := by rfl) (hpl : (backTo pos (starEach es X.env)).any (·.1) = false := by rfl) : SE T X (.Call (.Name x q) (e :: es) [] pos) (evF (p.cl f) fs) := fun W tk =>
  ⟨fun pins s σ H Q I ⟨ι, hp, σi, R, S, P⟩ => wpAny_Call_Name_kw (ld_glob I hg hm (PySem.W.callWith_K (h₀ := X.base) I.ok.mod.kin (B.K ▸ hk) (ha.go tk I R S (wp_bind P) fun us s1 ι1 hp1 xs Vs H1 I1 R1 e1 S1 r1 rv1 q1 =>
    ⟨I1.kIn, call_s B.K (B.fn f) (B.room.mono (Nat.le_succ _)) W tk pins s1 σ H1 Vs us Q ι1 hp1 xs I1 rv1 R1 r1 (wp_mono q1 (fun _ _ => DV.up e1) fun _ _ _ => DX.up e1)⟩) he hpl) hdb)⟩
theorem se_call0 {x : Str} {q pos : Pos} (f : Nat) (B : Bd T X p d) (hg : Gl X x) (hm : X.mg x = some (.ref (T.fa f))) (hk : PySem.W.keepIn T.K (.ref (T.fa f)) = true) (hdb : (x == ("__debug__" : Str)) = false := by decide) :
    SE T X (.Call (.Name x q) [] [] pos) (evF (p.cl f) eaN) := fun W tk =>
  ⟨fun pins s σ H Q I ⟨ι, hp, σi, R, S, P⟩ => wpAny_Call_Name_kw (ld_glob I hg hm (PySem.W.callWith_K0 I.kIn (B.K ▸ hk) (call_s B.K (B.fn f) (B.room.mono (Nat.le_succ _)) W tk pins s σ H [] [] Q ι hp [] I .nil R .nil P)) hdb)⟩

/-! ### instances -/
/-- a new instance of the class c: then its __init__ -/
def mkI (p : Pg) (c : Nat) (xs : List IV) (h : IHeap) : Res IV := match p.ini c with
  | some f => (p.cl f (.ref h.n :: xs) (h.add (.ins c []))).bind fun v h1 => match v with
    | .non => .ok (.ref h.n) h1
    | _ => .bad
  | none => .bad
theorem Rel.newIns {c : Nat} {x dx : Addr} (R : Rel T ι hp H) (nx : H x = none) (nd : H dx = none) (ne : dx ≠ x) :
    Rel T (ι ++ [x]) (hp.add (.ins c [])) (upd (upd H dx (.own x)) x (.ins (T.ca c) dx [])) ∧ Ext ι H (ι ++ [x]) (upd (upd H dx (.own x)) x (.ins (T.ca c) dx [])) := by
  have n1 : upd H dx (.own x) x = none := by rw [upd_ne (Ne.symm ne)]; exact nx
  have e1 : Ext ι H ι (upd H dx (.own x)) := Ext.new0 nd
  have e2 : Ext ι (upd H dx (.own x)) (ι ++ [x]) (upd (upd H dx (.own x)) x (.ins (T.ca c) dx [])) := Ext.new n1
  exact ⟨R.add (e1.trans e2) nx (fun a u q => keep_new n1 _ _ (keep_new nd _ _ q)) ⟨dx, [], upd_same, .nil⟩, e1.trans e2⟩
theorem run_mk {c : Nat} {xs : List IV} {vs : List V} {us : List Value} (B : Bd T X p d) (tk : Takes X W) (I : Inv X pins σ H s) (R : Rel T ι hp H) (rv : RVs T ι H xs vs) (r : Vals vs us) (P : (mkI p c xs hp).wp (DV T ι H Q) (DX T ι H W σ)) :
    wpAny (model X.prog X.w) X.A (call (.ref (T.ca c)) us) (EP X pins σ Q) X.xe s := by
  unfold mkI at P
  split at P
  · rename_i f hf
    have M := B.ini c f hf
    have I2 := Inv.made (C := T.ca c) I
    obtain ⟨R2, e2⟩ := R.newIns (c := c) (x := s.heap.objs.size + 1) (dx := s.heap.objs.size) (I.hok.fresh (Nat.le_succ _)) (I.hok.fresh (Nat.le_refl _)) (Nat.ne_of_lt (Nat.lt_succ_self _))
    have rself : RV T (ι ++ [s.heap.objs.size + 1]) (upd (upd H s.heap.objs.size (.own (s.heap.objs.size + 1))) (s.heap.objs.size + 1) (.ins (T.ca c) s.heap.objs.size [])) (.ref hp.n) (.ref (s.heap.objs.size + 1)) := .ref (by rw [← R.len]; simp)
    refine wpAny_call (make_map (f := T.fa f) I.kIn (B.K ▸ M.makes) (B.K ▸ M.init) (beq_iff_eq.mp (B.K ▸ M.fn)) (codeAny_mono (B.fn f _ X.stack _ _ (Value.ref (s.heap.objs.size + 1) :: us) (V.ref (s.heap.objs.size + 1) :: vs)
      (fun v H2 => v = .non ∧ Q (.ref (s.heap.objs.size + 1)) H2) (fun cc d' H' => W cc d' σ H') (B.room.make (T.ca c) us []) ((B.K ▸ I2.env0 : Env0 X.prog X.w T.K X.mg X.base X.A X.stack _ _).make (T.ca c) us []) (.cons rfl r)
      ⟨_, _, _, R2, .cons rself (rv.up e2), wp_mono (wp_bind P) (fun v h1 q ι' H' V R' e' rv' => ?_) fun cc fs h1 q ι' H' d' R' e' xf => q ι' H' d' R' (e2.trans e') xf⟩) fun r s' hq' => ?_))
    · split at q
      · cases rv'
        exact ⟨rfl, q ι' H' _ R' (e2.trans e') (rself.up e')⟩
      · exact q.elim
    · cases r with
      | error e => exact tk e s' (XE.of_call I2 (fun _ _ _ h => h) hq')
      | ok fl =>
        cases fl with
        | ret u =>
          obtain ⟨v, H', I3, rv', ev, q3⟩ := I2.after hq'
          subst ev
          exact ⟨rv', ⟨V.ref (s.heap.objs.size + 1), H', I3, rfl, q3⟩⟩
        | _ => exact hq'.elim
  · exact P.elim
/-- C(e, ..) -/
theorem se_make {x : Str} {e : Expr} {es : List Expr} {q pos : Pos} {fs : EvA} (c : Nat) (B : Bd T X p d) (hg : Gl X x) (hm : X.mg x = some (.ref (T.ca c))) (hk : PySem.W.keepIn T.K (.ref (T.ca c)) = true) (ha : SA T X (e :: es) fs) (hdb : (x == ("__debug__" : Str)) = false := by decide)
    (he : starEach (e :: es) X.env = (false, eval e X.env) :: starEach es X.env := by rfl) (hpl : (backTo pos (starEach es X.env)).any (·.1) = false := by rfl) : SE T X (.Call (.Name x q) (e :: es) [] pos) (evF (mkI p c) fs) := fun W tk =>
  ⟨fun pins s σ H Q I ⟨ι, hp, σi, R, S, P⟩ => wpAny_Call_Name_kw (ld_glob I hg hm (PySem.W.callWith_K (h₀ := X.base) I.ok.mod.kin (B.K ▸ hk) (ha.go tk I R S (wp_bind P) fun us s1 ι1 hp1 xs Vs H1 I1 R1 e1 S1 r1 rv1 q1 =>
    ⟨I1.kIn, run_mk B tk I1 R1 r1 rv1 (wp_mono q1 (fun _ _ => DV.up e1) fun _ _ _ => DX.up e1)⟩) he hpl) hdb)⟩
/-- a field's value -/
def fget : Fs → Nat → Option IV
  | [], _ => none
  | (g, v) :: r, f => cond (Nat.beq g f) (some v) (fget r f)
def fput (f : Nat) (v : IV) : Fs → Fs
  | [] => [(f, v)]
  | (g, u) :: r => cond (Nat.beq g f) ((g, v) :: r) ((g, u) :: fput f v r)
theorem RFs.get {fs : Fs} {gs : List (Str × V)} {f : Nat} (r : RFs T ι H fs gs) : (∀ x, fget fs f = some x → ∃ v, gs.lookup (T.nm f) = some v ∧ RV T ι H x v) ∧ (fget fs f = none → gs.lookup (T.nm f) = none) := by
  induction r with
  | nil => exact ⟨(fun x q => nomatch q), fun _ => rfl⟩
  | @cons g x v xs vs h t ih =>
    unfold fget
    rw [List.lookup_cons]
    by_cases e : g = f
    · subst e
      rw [show Nat.beq g g = true from by simp, show (T.nm g == T.nm g) = true from beq_self_eq_true _]
      exact ⟨fun y q => ⟨v, rfl, (Option.some.inj q) ▸ h⟩, (fun q => nomatch q)⟩
    · have n1 : Nat.beq g f = false := by rw [beqD]; exact decide_eq_false e
      have n2 : (T.nm f == T.nm g) = false := beq_eq_false_iff_ne.mpr fun q => e (T.inj _ _ q).symm
      rw [n1, n2]
      exact ih
theorem RFs.put {fs : Fs} {gs : List (Str × V)} {f : Nat} {x : IV} {v : V} (r : RFs T ι H fs gs) (h : RV T ι H x v) : RFs T ι H (fput f x fs) (putF (T.nm f) v gs) := by
  induction r with
  | nil => exact .cons h .nil
  | @cons g y u xs vs h' t ih =>
    show RFs T ι H (cond (Nat.beq g f) ((g, x) :: xs) ((g, y) :: fput f x xs)) (if T.nm g = T.nm f then (T.nm g, v) :: vs else (T.nm g, u) :: putF (T.nm f) v vs)
    by_cases e : g = f
    · subst e
      rw [show Nat.beq g g = true from by simp, if_pos rfl]
      exact .cons h t
    · have n1 : Nat.beq g f = false := by rw [beqD]; exact decide_eq_false e
      rw [n1, if_neg fun q => e (T.inj _ _ q)]
      exact .cons h' ih
theorem RFs.length {fs : Fs} {gs : List (Str × V)} (r : RFs T ι H fs gs) : fs.length = gs.length := by
  induction r with
  | nil => rfl
  | cons h t ih => simp [ih]
/-- o.f -/
def getA (p : Pg) (f : Nat) (x : IV) (h : IHeap) : Res IV := match x with
  | .ref i => (match h.get i with
    | some (.ins c fs) => (match p.att c f with
      | .fld => (match fget fs f with
        | some v => .ok v h
        | none => .bad)
      | .prop g => SV.noErr (p.cl g [x] h)
      | _ => .bad)
    | _ => .bad)
  | _ => .bad
theorem noErr_wp {r : Res IV} {Qk : IV → IHeap → Prop} {Qe Qe' : Nat → Fs → IHeap → Prop} (h : (SV.noErr r).wp Qk Qe) : r.wp Qk Qe' := by
  cases r
  · exact h
  · exact h.elim
  · exact h.elim
theorem se_att {e : Expr} {x : Str} {pos : Pos} {fe : Ev} (f : Nat) (B : Bd T X p d) (he : SE T X e fe) (hx : x = T.nm f := by rfl) (hb : attributeBase e x X.env (eval e X.env) = eval e X.env := by rfl) : SE T X (.Attribute e x pos) (evU (getA p f) fe) := fun W tk =>
  ⟨fun pins s σ H Q I ⟨ι, hp, σi, R, S, P⟩ => attr_of hb (he.go tk I R S (wp_bind P) fun u s1 ι1 hp1 xi V1 H1 I1 R1 e1 S1 r1 rv1 q1 => by
    subst hx
    unfold getA at q1
    split at q1
    · split at q1
      · rename_i i c fs hi
        obtain ⟨a, dx, gs, rfl, ha, hH, rf⟩ := R1.ins hi r1
        cases rv1
        have A := B.att c f
        split at q1
        · rename_i hatt
          rw [hatt] at A
          split at q1
          · rename_i v hv
            obtain ⟨w, hw, rw'⟩ := (rf.get (f := f)).1 v hv
            exact getattr_ok I1 hH (B.K ▸ A.1) (B.K ▸ A.2) hw fun u' s' I' ru => ⟨w, H1, I', ru, q1 ι1 H1 w R1 e1 rw'⟩
          · exact q1.elim
        · rename_i g hatt
          rw [hatt] at A
          obtain ⟨cl, pp, po⟩ := A
          obtain ⟨mA, O, _, _, _, _⟩ := ins_get I1.hok hH
          obtain ⟨od, J, _⟩ := O.look
          obtain ⟨rest, hrec⟩ := po.rec_
          have I2 := I1.tok (s1.toks + 1)
          have hc : (PySem.W.clsIn X.K (T.ca c)).isSome = true := by
            obtain ⟨cd, hc, _⟩ := PySem.W.any_some cl.hd
            rw [B.K, hc]; rfl
          refine PySem.W.get_bind I1.kIn J (PySem.W.plainGet_of (B.K ▸ cl.get (T.nm f))).1 (PySem.W.findObj_data hc (B.K ▸ po.at_) (B.K ▸ po.get) (B.K ▸ po.tak)) (PySem.W.plainGet_of (B.K ▸ cl.get (T.nm f))).2 (wpAny_call (PySem.W.prop_get (s := { s1 with toks := s1.toks + 1 }) I1.kIn (B.K ▸ hrec) ?_))
          refine codeAny_mono (B.fn g X.A.in1 X.stack { s1 with toks := s1.toks + 1 } H1 [.ref a] [.ref a] Q (fun _ _ _ => False) B.room.in1 (B.K ▸ I2.env0 : Env0 X.prog X.w T.K X.mg X.base X.A X.stack _ _).in1 (.cons rfl .nil)
            ⟨ι1, hp1, _, R1, .cons r1 .nil, wp_mono (noErr_wp (Qe' := fun _ _ _ => False) q1) (fun _ _ => DV.up e1) fun _ _ _ z => z.elim⟩) fun r s' hq => ?_
          cases r with
          | error er =>
            obtain ⟨_, _, _, _, _, _, _, _, _, _, _, _, z⟩ := hq
            exact z.elim
          | ok fl =>
            cases fl with
            | ret u' =>
              obtain ⟨v', H', I3, rv', q3⟩ := I2.after hq
              show wpAny _ _ (handedOut u') _ _ _
              rw [PySem.W.handedOut_of (handed_of rv')]
              exact wpAny_pure ⟨v', H', I3, rv', q3⟩
            | next => exact False.elim hq
            | brk => exact False.elim hq
            | cont => exact False.elim hq
        · exact q1.elim
      · exact q1.elim
    · exact q1.elim)⟩
end
end SV
set_option maxHeartbeats 3999999
namespace SV
open PySem PySem.Spec
open PyProof.Rows L2

/-! ### subscripts -/
def IxS (T : Tab) (X : Cx) (g : IV → IV → IHeap → Res IV) : Prop :=
  ∀ (W : WX), Takes X W → ∀ (value slice : Expr) (pins : List (Addr × Obj)) (s : Shared) (σ : Sl) (H : Hp) (x y : V) (v u : Value) (Q : VK) (ι : List Addr) (hp : IHeap) (xi yi : IV), Inv X pins σ H s → RelV x v → RelV y u → Rel T ι hp H →
    RV T ι H xi x → RV T ι H yi y → (g xi yi hp).wp (DV T ι H Q) (DX T ι H W σ) → subscripted slice false v u = operate [v, u] (getItem v u) → wpAny (model X.prog X.w) X.A (subscriptTail value slice v u) (EP X pins σ Q) X.xe s
/-- the item at an index -/
def ixI (n : Nat) (i : Int) : Option Nat := match i with
  | .ofNat k => cond (Nat.blt k n) (some k) none
  | .negSucc k => cond (Nat.blt k n) (some (n - (k + 1))) none
theorem ixI_eq (n : Nat) (i : Int) : ixI n i = ixN n i := by
  unfold ixN
  cases i with
  | ofNat k =>
    show cond (Nat.blt k n) (some k) none = _
    rw [if_pos (show (0 : Int) ≤ Int.ofNat k from Int.natCast_nonneg k)]
    by_cases h : k < n
    · rw [if_pos (show (Int.ofNat k) < (n : Int) from Int.ofNat_lt.mpr h), show Nat.blt k n = true from Nat.ble_eq_true_of_le h]; rfl
    · rw [if_neg (show ¬ (Int.ofNat k) < (n : Int) from fun q => h (Int.ofNat_lt.mp q)), show Nat.blt k n = false from by rw [Bool.eq_false_iff]; exact fun q => h (Nat.le_of_ble_eq_true q)]; rfl
  | negSucc k =>
    show cond (Nat.blt k n) (some (n - (k + 1))) none = _
    rw [if_neg (show ¬ (0 : Int) ≤ Int.negSucc k from fun q => by omega)]
    by_cases h : k < n
    · rw [if_pos (show -(n : Int) ≤ Int.negSucc k from by omega), show Nat.blt k n = true from Nat.ble_eq_true_of_le h]
      show some _ = some _
      congr 1
      omega
    · rw [if_neg (show ¬ -(n : Int) ≤ Int.negSucc k from by omega), show Nat.blt k n = false from by rw [Bool.eq_false_iff]; exact fun q => h (Nat.le_of_ble_eq_true q)]; rfl
def atL (xs : List IV) (i : Int) : Option IV := match ixI xs.length i with
  | some k => xs[k]?
  | none => none
def atS (z : Str) (i : Int) : Option Str := match ixI z.cps.toList.length i with
  | some k => (match z.cps.toList[k]? with
    | some c => some ⟨#[c]⟩
    | none => none)
  | none => none
def optR (o : Option IV) (h : IHeap) : Res IV := match o with
  | some v => .ok v h
  | none => .bad
theorem optR_wp {o : Option IV} {h : IHeap} {Qk : IV → IHeap → Prop} {Qe : Nat → Fs → IHeap → Prop} (p : (optR o h).wp Qk Qe) : ∃ v, o = some v ∧ Qk v h := by
  cases o
  · exact p.elim
  · exact ⟨_, rfl, p⟩
def ivIx (x y : IV) (h : IHeap) : Res IV := match y with
  | .int i => (match x with
    | .tup xs => optR (atL xs i) h
    | .ref r => (match h.items r with
      | some xs => optR (atL xs i) h
      | none => .bad)
    | .str z => cond (Nat.ble z.length sizeLine) (match atS z i with
      | some c => .ok (.str c) h
      | none => .bad) .bad
    | _ => .bad)
  | _ => .bad
section
variable {T : Tab} {X : Cx} {ι : List Addr} {hp : IHeap} {H : Hp}
theorem RVs.atI {xs : List IV} {vs : List V} {i : Int} {x : IV} (r : RVs T ι H xs vs) (h : atL xs i = some x) : ∃ v, L2.atI vs i = some v ∧ RV T ι H x v := by
  unfold atL at h
  rw [ixI_eq] at h
  unfold L2.atI
  rw [← r.length]
  split at h
  · rename_i k hk
    obtain ⟨v, h1, h2⟩ := r.get h
    exact ⟨v, by rw [hk]; exact h1, h2⟩
  · cases h
theorem is_ix (hK : X.K = T.K) : IxS T X ivIx := by
  intro W tk value slice pins s σ H x y v u Q ι hp xi yi I rx ry R rxi ryi P hs
  unfold ivIx at P
  split at P
  · cases ryi
    split at P
    · obtain ⟨z, hz, P⟩ := optR_wp P
      cases rxi with
      | tup h1 r1 =>
        obtain ⟨w, h2, r2⟩ := r1.atI hz
        exact L2.ix_tup value slice pins s σ H _ _ v u Q I rx ry ⟨_, _, _, _, rfl, rfl, hK ▸ h1, h2, DV.val P R r2⟩ hs
    · split at P
      · rename_i r xs hx
        obtain ⟨z, hz, P⟩ := optR_wp P
        obtain ⟨a, vs, rfl, _, h1, r1⟩ := R.seq hx rxi
        obtain ⟨w, h2, r2⟩ := r1.atI hz
        exact L2.ix_list value slice pins s σ H _ _ v u Q I rx ry ⟨_, _, _, _, rfl, rfl, hK ▸ h1, h2, DV.val P R r2⟩ hs
      · exact P.elim
    · rename_i z
      cases rxi
      cases hb : Nat.ble z.length sizeLine with
      | false => rw [hb] at P; exact P.elim
      | true =>
        rw [hb] at P
        have P : (match atS z _ with
          | some c => .ok (.str c) hp
          | none => .bad : Res IV).wp (DV T ι H Q) (DX T ι H W σ) := P
        split at P
        · rename_i c hc
          unfold atS at hc
          rw [ixI_eq] at hc
          split at hc
          · rename_i k hk
            split at hc
            · rename_i d hd
              cases hc
              refine L2.ix_str value slice pins s σ H _ _ v u Q I rx ry ⟨_, _, d, rfl, rfl, Nat.le_of_ble_eq_true hb, ?_, DV.val P R (.str _)⟩ hs
              unfold L2.atI
              rw [hk]; exact hd
            · cases hc
          · cases hc
        · exact P.elim
    · exact P.elim
  · exact P.elim
theorem se_ix {g : IV → IV → IHeap → Res IV} {a b : Expr} {pos : Pos} {fa fb : Ev} (hr : IxS T X g) (ha : SE T X a fa) (hb : SE T X b fb) (hs : PlainIx b := by intro _ _; rfl) : SE T X (.Subscript a b pos) (evB g fa fb) := fun W tk =>
  ⟨fun pins s σ H Q I ⟨ι, hp, σi, R, S, P⟩ => Subscript_ (ha.go tk I R S (wp_bind P) fun v s1 ι1 hp1 x V1 H1 I1 R1 e1 S1 r1 rv1 q1 => hb.go tk I1 R1 S1 (wp_mono (wp_bind q1) (fun _ _ z => z) fun _ _ _ => DX.up e1) fun u s2 ι2 hp2 y V2 H2 I2 R2 e2 S2 r2 rv2 q2 =>
    hr W tk a b pins s2 σ H2 V1 V2 v u Q ι2 hp2 x y I2 rv1 rv2 R2 (r1.up e2) r2 (wp_mono q2 (fun _ _ => DV.up (e1.trans e2)) fun _ _ _ => DX.up (e1.trans e2)) (hs _ _))⟩

/-! #### slices -/
abbrev EvO := ISt → IHeap → Res (Option Int)
def eoN : EvO := fun _ h => .ok none h
def eoS (f : Ev) : EvO := fun σ h => (f σ h).bind fun v h1 => match v with
  | .int i => .ok (some i) h1
  | _ => .bad
def cutI (xs : List IV) (lo hi : Option Int) : List IV := (xs.drop (HT.sIx xs.length 0 lo)).take (HT.sIx xs.length xs.length hi - HT.sIx xs.length 0 lo)
def ivSl (x : IV) (lo hi : Option Int) (h : IHeap) : Res IV := match x with
  | .tup xs => .ok (.tup (cutI xs lo hi)) h
  | .ref r => (match h.items r with
    | some xs => .ok (.ref h.n) (h.add (.lst (cutI xs lo hi)))
    | none => .bad)
  | _ => .bad
def evSl (fa : Ev) (fl fu : EvO) : Ev := fun σ h => (fa σ h).bind fun x h1 => (fl σ h1).bind fun lo h2 => (fu σ h2).bind fun hi h3 => ivSl x lo hi h3
def tO (T : Tab) (W : WX) (f : EvO) : TO := fun σ H Q => ∃ ι hp σi, Rel T ι hp H ∧ RSt T ι H σi σ ∧ (f σi hp).wp (fun o hp' => ∀ ι' H', Rel T ι' hp' H' → Ext ι H ι' H' → Q o H') (DX T ι H W σ)
def SO (T : Tab) (X : Cx) (e : Option Expr) (f : EvO) : Prop := ∀ W, Takes X W → PO X e (tO T W f)
theorem so_n : SO T X none eoN := fun W tk => ⟨fun pins s σ H Q I ⟨ι, hp, σi, R, S, P⟩ => po_none.run pins s σ H Q I (P ι H R .refl)⟩
theorem so_s {e : Expr} {f : Ev} (h : SE T X e f) : SO T X (some e) (eoS f) := fun W tk => ⟨fun pins s σ H Q I ⟨ι, hp, σi, R, S, P⟩ => (po_some (h W tk)).run pins s σ H Q I
  ⟨ι, hp, σi, R, S, wp_mono (wp_bind P) (fun v h1 q ι' H' V' R' e' r' => by
    split at q
    · cases r'; exact ⟨_, rfl, q ι' H' R' e'⟩
    · exact q.elim) fun _ _ _ z => z⟩⟩
theorem RVs.cut {xs : List IV} {vs : List V} (r : RVs T ι H xs vs) (lo hi : Option Int) : RVs T ι H (cutI xs lo hi) (cutV vs lo hi) := by
  unfold cutI cutV
  rw [r.length]
  exact (r.drop _).take _
theorem cut_whole {xs : List IV} {lo hi : Option Int} (h : HT.sIx xs.length 0 lo = 0 ∧ HT.sIx xs.length xs.length hi = xs.length) : cutI xs lo hi = xs := by
  unfold cutI
  rw [h.1, h.2]
  simp
theorem se_sl {a : Expr} {lo hi : Option Expr} {p2 pos : Pos} {fa : Ev} {fl fu : EvO} (hK : X.K = T.K) (ha : SE T X a fa) (hl : SO T X lo fl) (hu : SO T X hi fu) : SE T X (.Subscript a (.Slice lo hi none p2) pos) (evSl fa fl fu) := fun W tk =>
  (pe_slice (sl_tupA.or sl_list) (ha W tk) (hl W tk) (hu W tk)).imp fun σ H Q ⟨ι, hp, σi, R, S, P⟩ => ⟨ι, hp, σi, R, S, wp_mono (wp_bind P) (fun x h1 q1 ι1 H1 V1 R1 e1 r1 =>
    ⟨ι1, h1, σi, R1, S.up e1, wp_mono (wp_bind q1) (fun l h2 q2 ι2 H2 R2 e2 => ⟨ι2, h2, σi, R2, S.up (e1.trans e2), wp_mono (wp_bind q2) (fun u h3 q3 ι3 H3 R3 e3 => by
      have e13 := e1.trans (e2.trans e3)
      have r1 := r1.up (e2.trans e3)
      unfold ivSl at q3
      split at q3
      · rename_i xs
        have q3 := DV.up e13 q3
        cases r1 with
        | tup h r =>
          refine .inl ⟨_, _, rfl, hK ▸ h, fun w => ?_, fun w => DV.tup q3 R3 (r.cut l u)⟩
          rw [← r.length] at w
          rw [cut_whole w] at q3
          exact DV.val q3 R3 (.tup h r)
      · split at q3
        · rename_i r xs hx
          obtain ⟨b, vs, rfl, _, h, r⟩ := R3.seq hx r1
          exact .inr ⟨_, _, rfl, hK ▸ h, DV.lst (DV.up e13 q3) R3 (r.cut l u)⟩
        · exact q3.elim
      · exact q3.elim) fun _ _ _ => DX.up (e1.trans e2)⟩) fun _ _ _ => DX.up e1⟩) fun _ _ _ z => z⟩

/-! ### built-in functions -/
theorem cs_of {f : Value} {r : List V → Hp → VK → Prop} {g : List IV → IHeap → Res IV} (hc : CallR X f r)
    (h : ∀ (ι : List Addr) (hp : IHeap) (H : Hp) (is : List IV) (xs : List V) (Q : VK) (E : Nat → Fs → IHeap → Prop), Rel T ι hp H → RVs T ι H is xs → (g is hp).wp (DV T ι H Q) E → r xs H Q) : CallS T X f g :=
  fun W tk pins s σ H xs us Q ι hp is I rv R r P => hc pins s σ H xs us Q I rv (h ι hp H is xs Q _ R r P)
def ivLen (is : List IV) (h : IHeap) : Res IV := match is with
  | [.tup xs] => .ok (.int xs.length) h
  | [.ref r] => (match h.items r with
    | some xs => .ok (.int xs.length) h
    | none => .bad)
  | [.str z] => okIf (Nat.ble z.length sizeLine) (.int z.length) h
  | _ => .bad
theorem cs_len (hK : X.K = T.K) : CallS T X (.builtin "len") ivLen := cs_of (call_len_seq.or call_len_str) fun ι hp H is xs Q E R r P => by
  unfold ivLen at P
  split at P
  · obtain ⟨v, rfl, r1⟩ := r.one
    cases r1 with
    | tup h r2 => exact .inl ⟨_, _, rfl, .inr (hK ▸ h), by rw [← r2.length]; exact DV.val P R (.int _)⟩
  · split at P
    · rename_i ys hy
      obtain ⟨v, rfl, r1⟩ := r.one
      obtain ⟨a, vs, rfl, _, h, r2⟩ := R.seq hy r1
      exact .inl ⟨_, _, rfl, .inl (hK ▸ h), by rw [← r2.length]; exact DV.val P R (.int _)⟩
    · exact P.elim
  · obtain ⟨v, rfl, r1⟩ := r.one
    cases r1
    obtain ⟨z, P⟩ := okIf_wp P
    exact .inr ⟨_, rfl, Nat.le_of_ble_eq_true z, DV.val P R (.int _)⟩
  · exact P.elim
def ivInt (is : List IV) (h : IHeap) : Res IV := match is with
  | [.int i] => .ok (.int i) h
  | [.bl b] => .ok (.int (if b then 1 else 0)) h
  | _ => .bad
theorem cs_int : CallS T X (.type "int") ivInt := cs_of call_int1 fun ι hp H is xs Q E R r P => by
  unfold ivInt at P
  split at P
  · obtain ⟨v, rfl, r1⟩ := r.one
    cases r1
    exact .inl ⟨_, rfl, DV.val P R (.int _)⟩
  · obtain ⟨v, rfl, r1⟩ := r.one
    cases r1
    exact .inr ⟨_, rfl, DV.val P R (.int _)⟩
  · exact P.elim
def intsOf : List IV → Option (List Int)
  | [] => some []
  | .int i :: r => (match intsOf r with
    | some l => some (i :: l)
    | none => none)
  | _ => none
theorem intsOf_rv : ∀ {xs : List IV} {vs : List V} {ns : List Int}, RVs T ι H xs vs → intsOf xs = some ns → vs = ns.map V.int
  | _, _, _, .nil, e => by cases e; rfl
  | x :: xs, v :: vs, ns, .cons r t, e => by
    unfold intsOf at e
    split at e
    · rename_i h; cases h
    · rename_i i r' h
      cases h
      split at e
      · rename_i l hl
        cases e
        cases r
        rw [List.map_cons, intsOf_rv t hl]
      · cases e
    · cases e
def boolsOf : List IV → Option (List Bool)
  | [] => some []
  | .bl i :: r => (match boolsOf r with
    | some l => some (i :: l)
    | none => none)
  | _ => none
theorem boolsOf_rv : ∀ {xs : List IV} {vs : List V} {ns : List Bool}, RVs T ι H xs vs → boolsOf xs = some ns → vs = ns.map V.bl
  | _, _, _, .nil, e => by cases e; rfl
  | x :: xs, v :: vs, ns, .cons r t, e => by
    unfold boolsOf at e
    split at e
    · rename_i h; cases h
    · rename_i i r' h
      cases h
      split at e
      · rename_i l hl
        cases e
        cases r
        rw [List.map_cons, boolsOf_rv t hl]
      · cases e
    · cases e
def ivSum (is : List IV) (h : IHeap) : Res IV := match is with
  | [.ref r] => (match h.items r with
    | some xs => (match intsOf xs with
      | some ns => .ok (.int ns.sum) h
      | none => .bad)
    | none => .bad)
  | _ => .bad
theorem cs_sum (hK : X.K = T.K) (hc : X.calm = true) : CallS T X (.builtin "sum") ivSum := cs_of (cr_sum hc) fun ι hp H is xs Q E R r P => by
  unfold ivSum at P
  split at P
  · split at P
    · rename_i ys hy
      split at P
      · rename_i ns hn
        obtain ⟨v, rfl, r1⟩ := r.one
        obtain ⟨a, vs, rfl, _, h, r2⟩ := R.seq hy r1
        have := intsOf_rv r2 hn
        subst this
        exact ⟨_, ns, rfl, hK ▸ h, DV.val P R (.int _)⟩
      · exact P.elim
    · exact P.elim
  · exact P.elim
def ivAll (is : List IV) (h : IHeap) : Res IV := match is with
  | [.ref r] => (match h.items r with
    | some xs => (match boolsOf xs with
      | some ns => .ok (.bl (ns.all id)) h
      | none => .bad)
    | none => .bad)
  | _ => .bad
theorem cs_all (hK : X.K = T.K) (hc : X.calm = true) : CallS T X (.builtin "all") ivAll := cs_of (cr_all hc) fun ι hp H is xs Q E R r P => by
  unfold ivAll at P
  split at P
  · split at P
    · rename_i ys hy
      split at P
      · rename_i ns hn
        obtain ⟨v, rfl, r1⟩ := r.one
        obtain ⟨a, vs, rfl, _, h, r2⟩ := R.seq hy r1
        have := boolsOf_rv r2 hn
        subst this
        exact ⟨_, ns, rfl, hK ▸ h, DV.val P R (.bl _)⟩
      · exact P.elim
    · exact P.elim
  · exact P.elim
def ivAny (is : List IV) (h : IHeap) : Res IV := match is with
  | [.ref r] => (match h.items r with
    | some xs => (match boolsOf xs with
      | some ns => .ok (.bl (ns.any id)) h
      | none => .bad)
    | none => .bad)
  | _ => .bad
theorem cs_any (hK : X.K = T.K) (hc : X.calm = true) : CallS T X (.builtin "any") ivAny := cs_of (cr_any hc) fun ι hp H is xs Q E R r P => by
  unfold ivAny at P
  split at P
  · split at P
    · rename_i ys hy
      split at P
      · rename_i ns hn
        obtain ⟨v, rfl, r1⟩ := r.one
        obtain ⟨a, vs, rfl, _, h, r2⟩ := R.seq hy r1
        have := boolsOf_rv r2 hn
        subst this
        exact ⟨_, ns, rfl, hK ▸ h, DV.val P R (.bl _)⟩
      · exact P.elim
    · exact P.elim
  · exact P.elim
/-- list(x), tuple(x) of a list or a tuple -/
def ivList (is : List IV) (h : IHeap) : Res IV := match is with
  | [x] => (match itemsOf x h with
    | some xs => .ok (.ref h.n) (h.add (.lst xs))
    | none => .bad)
  | _ => .bad
theorem cs_list (hK : X.K = T.K) : CallS T X (.type "list") ivList := cs_of call_list_of fun ι hp H is xs Q E R r P => by
  unfold ivList at P
  split at P
  · split at P
    · rename_i ys hy
      obtain ⟨v, rfl, r1⟩ := r.one
      obtain ⟨a, vs, rfl, h, r2⟩ := itemsOf_seq R r1 hy
      exact ⟨_, _, rfl, by rw [hK]; exact h.symm, DV.lst P R r2⟩
    · exact P.elim
  · exact P.elim
def ivTuple (is : List IV) (h : IHeap) : Res IV := match is with
  | [.tup xs] => .ok (.tup xs) h
  | [.ref r] => (match h.items r with
    | some xs => .ok (.tup xs) h
    | none => .bad)
  | _ => .bad
theorem cs_tuple (hK : X.K = T.K) : CallS T X (.type "tuple") ivTuple := cs_of call_tuple_of fun ι hp H is xs Q E R r P => by
  unfold ivTuple at P
  split at P
  · obtain ⟨v, rfl, r1⟩ := r.one
    cases r1 with
    | tup h r2 => exact ⟨_, _, rfl, .inr ⟨hK ▸ h, DV.val P R (.tup h r2)⟩⟩
  · split at P
    · rename_i ys hy
      obtain ⟨v, rfl, r1⟩ := r.one
      obtain ⟨a, vs, rfl, _, h, r2⟩ := R.seq hy r1
      exact ⟨_, _, rfl, .inl ⟨hK ▸ h, DV.tup P R r2⟩⟩
    · exact P.elim
  · exact P.elim
def ivMin (is : List IV) (h : IHeap) : Res IV := match is with
  | [.int i, .int j] => .ok (.int (if j < i then j else i)) h
  | _ => .bad
def ivMax (is : List IV) (h : IHeap) : Res IV := match is with
  | [.int i, .int j] => .ok (.int (if j > i then j else i)) h
  | _ => .bad
def ivAbs (is : List IV) (h : IHeap) : Res IV := match is with
  | [.int i] => .ok (.int (if i < 0 then -i else i)) h
  | _ => .bad
theorem cs_min (hc : X.calm = true) : CallS T X (.builtin "min") ivMin := cs_of (call_min2 hc) fun ι hp H is xs Q E R r P => by
  unfold ivMin at P
  split at P
  · obtain ⟨v, w, rfl, r1, r2⟩ := r.two
    cases r1; cases r2
    exact ⟨_, _, rfl, DV.val P R (.int _)⟩
  · exact P.elim
theorem cs_max (hc : X.calm = true) : CallS T X (.builtin "max") ivMax := cs_of (call_max2 hc) fun ι hp H is xs Q E R r P => by
  unfold ivMax at P
  split at P
  · obtain ⟨v, w, rfl, r1, r2⟩ := r.two
    cases r1; cases r2
    exact ⟨_, _, rfl, DV.val P R (.int _)⟩
  · exact P.elim
theorem cs_abs : CallS T X (.builtin "abs") ivAbs := cs_of call_abs fun ι hp H is xs Q E R r P => by
  unfold ivAbs at P
  split at P
  · obtain ⟨v, rfl, r1⟩ := r.one
    cases r1
    exact ⟨_, rfl, DV.val P R (.int _)⟩
  · exact P.elim

/-! ### methods of built-in types -/
def MtS (T : Tab) (X : Cx) (id : String) (g : IV → List IV → IHeap → Res IV) : Prop :=
  ∀ (W : WX), Takes X W → ∀ (pins : List (Addr × Obj)) (s : Shared) (σ : Sl) (H : Hp) (x : V) (xs : List V) (v : Value) (us : List Value) (Q : VK) (ι : List Addr) (hp : IHeap) (xi : IV) (is : List IV), Inv X pins σ H s → RelV x v → Vals xs us → Rel T ι hp H →
    RV T ι H xi x → RVs T ι H is xs → (g xi is hp).wp (DV T ι H Q) (DX T ι H W σ) → wpAny (model X.prog X.w) X.A (call (.builtin id) (v :: us)) (EP X pins σ Q) X.xe s
def isLst (x : IV) (h : IHeap) : Bool := match x with
  | .ref i => (match h.items i with
    | some _ => true
    | none => false)
  | _ => false
def isStr (x : IV) (_ : IHeap) : Bool := match x with
  | .str _ => true
  | _ => false
/-- what a test of a receiver's type says -/
def TyS (T : Tab) (ty : String) (t : IV → IHeap → Bool) : Prop := ∀ ι hp H x V, Rel T ι hp H → RV T ι H x V → t x hp = true → tyV T.K ty V H
theorem ty_lst : TyS T "list" isLst := fun ι hp H x V R r e => by
  unfold isLst at e
  split at e
  · split at e
    · rename_i ys hy
      obtain ⟨a, vs, rfl, _, h, _⟩ := R.seq hy r
      exact .inl ⟨rfl, _, h⟩
    · cases e
  · cases e
theorem ty_str : TyS T "str" isStr := fun ι hp H x V R r e => by
  unfold isStr at e
  split at e
  · cases r; rfl
  · cases e
def evM (t : IV → IHeap → Bool) (g : IV → List IV → IHeap → Res IV) (fo : Ev) (fa : EvA) : Ev := fun σ h => (fo σ h).bind fun x h1 => cond (t x h1) ((fa σ h1).bind fun xs h2 => g x xs h2) .bad
theorem se_bm {ty id : String} {t : IV → IHeap → Bool} {g : IV → List IV → IHeap → Res IV} {o e : Expr} {es : List Expr} {name : Str} {apos cpos : Pos} {fo : Ev} {fa : EvA} (hK : X.K = T.K) (ht : TyS T ty t) (pa : PlainAttrs ty) (slot : Slot ty name id) (hty : typeOf (.builtin id) = pure (.type "method_descriptor"))
    (hm : MtS T X id g) (ho : SE T X o fo) (ha : SA T X (e :: es) fa) (hbase : attributeBase o name X.env (eval o X.env) = eval o X.env := by rfl)
    (hfew : Few X cpos (e :: es) := by rfl) (hline : OneLine apos cpos := by rfl) (hs : Arg1 X e es := by rfl) (hplain : NoStar X cpos es := by rfl) :
    SE T X (.Call (.Attribute o name apos) (e :: es) [] cpos) (evM t g fo fa) := fun W tk =>
  ⟨fun pins s σ H Q I ⟨ι, hp, σi, R, S, P⟩ => wpAny_Call_method_late hbase hfew hline rfl (ho.go tk I R S (wp_bind P) fun v s1 ι1 hp1 x V1 H1 I1 R1 e1 S1 r1 rv1 q1 => by
    cases hb : t x hp1 with
    | false => rw [hb] at q1; exact q1.elim
    | true =>
      rw [hb] at q1
      obtain ⟨h1, h2⟩ := tyV_is I1 rv1 (hK ▸ ht _ _ _ _ _ R1 r1 hb : tyV X.K ty V1 H1)
      refine ⟨ty, id, pa, slot, hty, h1, h2, ?_⟩
      have hA := ha.go (pos := cpos) tk I1 R1 S1 (wp_mono (wp_bind q1) (fun _ _ z => z) fun _ _ _ => DX.up e1) (Qf := fun us s2 => wpAny (model X.prog X.w) X.A (call (.builtin id) (v :: us)) (EP X pins σ Q) X.xe s2)
        fun us s2 ι2 hp2 xs Vs H2 I2 R2 e2 S2 r2 rv2 q2 => hm W tk pins s2 σ H2 V1 Vs v us Q ι2 hp2 x xs I2 rv1 rv2 R2 (r1.up e2) r2 (wp_mono q2 (fun _ _ => DV.up (e1.trans e2)) fun _ _ _ => DX.up (e1.trans e2))
      rw [hs] at hA ⊢
      exact Calls.callWith_builtin (by show (false || (backTo cpos (starEach es X.env)).any (·.1)) = false; rw [hplain]; rfl) (Calls.evalArgs_plain hA))⟩
def lsAppend (x : IV) (is : List IV) (h : IHeap) : Res IV := match x, is with
  | .ref i, [y] => (match h.get i with
    | some (.lst xs) => cond (Nat.blt xs.length sizeLine) (.ok .non (h.put i (.lst (xs ++ [y])))) .bad
    | _ => .bad)
  | _, _ => .bad
theorem ms_append : MtS T X "list.append" lsAppend := by
  intro W tk pins s σ H x xs v us Q ι hp xi is I rx rv R rxi ris P
  unfold lsAppend at P
  split at P
  · rename_i i y
    split at P
    · rename_i ys hy
      obtain ⟨a, vs, rfl, ha, hH, r1⟩ := R.lst hy rxi
      obtain ⟨w, rfl, rw'⟩ := ris.one
      cases hb : Nat.blt ys.length sizeLine with
      | false => rw [hb] at P; exact P.elim
      | true =>
        rw [hb] at P
        have hlt : ys.length < sizeLine := Nat.le_of_ble_eq_true hb
        have ew : Ext ι H ι (upd H a (.lst (vs ++ [w]))) := Ext.wr hH (fun _ z => nomatch z) fun _ _ z => nomatch z
        refine L2.mt_append pins s σ H _ _ v us Q I rx rv ⟨a, vs, w, rfl, rfl, hH, by rw [← r1.length]; exact hlt, P ι _ _ ?_ ew .non⟩
        exact R.put hy rfl ha ew rfl ⟨_, upd_same, (r1.append (.cons rw' .nil)).up ew⟩
    · exact P.elim
  · exact P.elim
end
end SV
set_option maxHeartbeats 3999999
namespace SV
open PySem PySem.Spec
open PyProof.Rows L2

/-! ### own methods, fields stored -/
def mthOf (p : Pg) (m : Nat) (x : IV) (h : IHeap) : Option Nat := match x with
  | .ref i => (match h.get i with
    | some (.ins c fs) => (match p.att c m with
      | .meth g => (match fget fs m with
        | none => some g
        | some _ => none)
      | _ => none)
    | _ => none)
  | _ => none
/-- o.m(e, ..) -/
def evMe (p : Pg) (m : Nat) (fo : Ev) (fa : EvA) : Ev := fun σ h => (fo σ h).bind fun x h1 => match mthOf p m x h1 with
  | some g => (fa σ h1).bind fun xs h2 => p.cl g (x :: xs) h2
  | none => .bad
section
variable {T : Tab} {X : Cx} {p : Pg} {d : Nat} {W : WX} {pins : List (Addr × Obj)} {s : Shared} {σ : Sl} {σi : ISt} {ι : List Addr} {hp : IHeap} {H : Hp} {Q : VK}
theorem mthOf_at {m : Nat} {x : IV} {V : V} {g : Nat} (B : Bd T X p d) (R : Rel T ι hp H) (r : RV T ι H x V) (e : mthOf p m x hp = some g) :
    ∃ a c dx gs, V = .ref a ∧ H a = some (.ins (T.ca c) dx gs) ∧ Cls T.K (T.ca c) ∧ Meth T.K (T.ca c) (T.nm m) (T.fa g) ∧ gs.lookup (T.nm m) = none := by
  unfold mthOf at e
  split at e
  · split at e
    · rename_i i c fs hi
      have A := B.att c m
      split at e
      · rename_i g' hatt
        split at e
        · rename_i hf
          cases e
          rw [hatt] at A
          obtain ⟨a, dx, gs, rfl, ha, hH, rf⟩ := R.ins hi r
          exact ⟨a, c, dx, gs, rfl, hH, A.1, A.2, rf.get.2 hf⟩
        · cases e
      · cases e
    · cases e
  · cases e
theorem se_me {pl : Sem Bool} {o e : Expr} {es : List Expr} {x : Str} {apos pos : Pos} {fo : Ev} {fa : EvA} (m : Nat) (B : Bd T X p d) (ho : SE T X o fo) (ha : SA T X (e :: es) fa) (hx : x = T.nm m := by rfl)
    (hst : Arg1 X e es := by rfl) (hpl : NoStar X pos es := by rfl)
    (ht : eval (.Call (.Attribute o x apos) (e :: es) [] pos) X.env = (do
      let ov ← eval o X.env
      standAt apos.atName
      let (f, first) ← holding [ov] (getMethod ov x pl)
      callWith pos f first (backTo pos (starEach (e :: es) X.env)) (backToKw pos (keywordEach [] X.env))) := by rfl) : SE T X (.Call (.Attribute o x apos) (e :: es) [] pos) (evMe p m fo fa) := fun W tk =>
  ⟨fun pins s σ H Q I ⟨ι, hp, σi, R, S, P⟩ => PySem.W.methodCall_KW (pl := pl) (ho.go tk I R S (wp_bind P) fun u s1 ι1 hp1 xi V1 H1 I1 R1 e1 S1 r1 rv1 q1 => by
    subst hx
    split at q1
    · rename_i g hg
      obtain ⟨a, c, dx, gs, rfl, hH, cl, mt, hl⟩ := mthOf_at B R1 r1 hg
      cases rv1
      refine getmeth_ok I1 hH (B.K ▸ cl) (B.K ▸ mt) hl ?_
      refine PySem.W.callWith_K (first := [.ref a]) (h₀ := X.base) I.ok.mod.kin (B.K ▸ mt.kp) (ha.go tk I1 R1 S1 (wp_mono (wp_bind q1) (fun _ _ z => z) fun _ _ _ => DX.up e1) fun us s2 ι2 hp2 xs Vs H2 I2 R2 e2 S2 r2 rv2 q2 => ⟨I2.kIn, ?_⟩) hst hpl
      exact call_s B.K (B.fn g) (B.room.mono (Nat.le_succ _)) W tk pins s2 σ H2 (V.ref a :: Vs) (Value.ref a :: us) Q ι2 hp2 (xi :: xs) I2 (.cons rfl rv2) R2 (.cons (r1.up e2) r2) (wp_mono q2 (fun _ _ => DV.up (e1.trans e2)) fun _ _ _ => DX.up (e1.trans e2))
    · exact q1.elim) ht⟩
theorem se_me0 {pl : Sem Bool} {o : Expr} {x : Str} {apos pos : Pos} {fo : Ev} (m : Nat) (B : Bd T X p d) (ho : SE T X o fo) (hx : x = T.nm m := by rfl)
    (ht : eval (.Call (.Attribute o x apos) [] [] pos) X.env = (do
      let ov ← eval o X.env
      standAt apos.atName
      let (f, first) ← holding [ov] (getMethod ov x pl)
      callWith pos f first (backTo pos (starEach [] X.env)) (backToKw pos (keywordEach [] X.env))) := by rfl) : SE T X (.Call (.Attribute o x apos) [] [] pos) (evMe p m fo eaN) := fun W tk =>
  ⟨fun pins s σ H Q I ⟨ι, hp, σi, R, S, P⟩ => PySem.W.methodCall_KW (pl := pl) (ho.go tk I R S (wp_bind P) fun u s1 ι1 hp1 xi V1 H1 I1 R1 e1 S1 r1 rv1 q1 => by
    subst hx
    split at q1
    · rename_i g hg
      obtain ⟨a, c, dx, gs, rfl, hH, cl, mt, hl⟩ := mthOf_at B R1 r1 hg
      cases rv1
      refine getmeth_ok I1 hH (B.K ▸ cl) (B.K ▸ mt) hl ?_
      exact PySem.W.callWith_K0 (first := [.ref a]) I1.kIn (B.K ▸ mt.kp) (call_s B.K (B.fn g) (B.room.mono (Nat.le_succ _)) W tk pins s1 σ H1 [V.ref a] [Value.ref a] Q ι1 hp1 [xi] I1 (.cons rfl .nil) R1 (.cons r1 .nil) (wp_mono q1 (fun _ _ => DV.up e1) fun _ _ _ => DX.up e1))
    · exact q1.elim) ht⟩
/-- o.f = e : the value first, then the object -/
def setA (p : Pg) (f : Nat) (v o : IV) (h : IHeap) : Option IHeap := match o with
  | .ref i => (match h.get i with
    | some (.ins c fs) => (match p.att c f with
      | .fld => cond (Nat.blt fs.length 1000) (some (h.put i (.ins c (fput f v fs)))) none
      | _ => none)
    | _ => none)
  | _ => none
def esFld (p : Pg) (f : Nat) (fo fv : Ev) : EvS := fun σ h => (fv σ h).st σ fun v h1 => (fo σ h1).st σ fun o h2 => match setA p f v o h2 with
  | some h3 => .nx σ h3
  | none => .bad
theorem ss_fld {o value : Expr} {x : Str} {pos' pos : Pos} {fo fv : Ev} (f : Nat) (B : Bd T X p d) (ho : SE T X o fo) (hv : SE T X value fv) (hx : x = T.nm f := by rfl) (hs : swapsWith value (some (.Attribute o x pos')) pos.line X.env = pure false := by rfl) : SS T X (.Assign [.Attribute o x pos'] value pos) (esFld p f fo fv) := fun W tk =>
  (ps_fld (ho W tk) (hv W tk) hs).imp fun D σ H ⟨ι, hp, σi, R, S, P⟩ => ⟨ι, hp, σi, R, S, wp_mono (st_wp P) (fun v h1 q1 ι1 H1 V1 R1 e1 r1 =>
    ⟨ι1, h1, σi, R1, S.up e1, wp_mono (st_wp q1) (fun ob h2 q2 ι2 H2 V2 R2 e2 r2 => by
      subst hx
      split at q2
      · rename_i h3 hset
        unfold setA at hset
        split at hset
        · split at hset
          · rename_i i c fs hi
            have A := B.att c f
            split at hset
            · rename_i hatt
              rw [hatt] at A
              cases hb : Nat.blt fs.length 1000 with
              | false => rw [hb] at hset; cases hset
              | true =>
                rw [hb] at hset
                cases hset
                obtain ⟨a, dx, gs, rfl, ha, hH, rf⟩ := R2.ins hi r2
                have hlt : fs.length < 1000 := Nat.le_of_ble_eq_true hb
                have ew : Ext ι2 H2 ι2 (upd H2 a (.ins (T.ca c) dx (putF (T.nm f) V1 gs))) := Ext.wr hH (fun _ z => nomatch z) fun _ _ z => nomatch z
                refine ⟨a, T.ca c, dx, gs, rfl, hH, B.K ▸ A.1, B.K ▸ A.2, by rw [← rf.length]; exact hlt, q2 ι2 _ σ ?_ ((e1.trans e2).trans ew) (S.up ((e1.trans e2).trans ew))⟩
                exact R2.put hi rfl ha ew rfl ⟨dx, _, upd_same, (rf.put (r1.up e2)).up ew⟩
            · cases hset
          · cases hset
        · cases hset
      · exact q2.elim) fun _ _ _ z => DX.up e1 (DXs.one S z)⟩) fun _ _ _ z => DXs.one S z⟩

/-! ### operators of own classes -/
theorem cmpback {pins : List (Addr × Obj)} {σ : Sl} {Q : VK} {u : Value} {s' : Shared} (h : EP X pins σ Q u s') : PySem.W.CmpBack (fun v s' => EP X pins σ Q v s') u s' := by
  obtain ⟨v, H', I, r, q⟩ := h
  cases v with
  | non => cases r; exact ⟨V.non, H', I, rfl, q⟩
  | bl b => cases r; exact ⟨V.bl b, H', I, rfl, q⟩
  | int i => obtain ⟨t, rfl⟩ := r; exact ⟨V.int i, H', I, ⟨t, rfl⟩, q⟩
  | str i => obtain ⟨t, rfl⟩ := r; exact ⟨V.str i, H', I, ⟨t, rfl⟩, q⟩
  | byt i => obtain ⟨t, rfl⟩ := r; exact ⟨V.byt i, H', I, ⟨t, rfl⟩, q⟩
  | flt i => obtain ⟨t, rfl⟩ := r; exact ⟨V.flt i, H', I, ⟨t, rfl⟩, q⟩
  | ref i => cases r; exact ⟨V.ref i, H', I, rfl, q⟩
  | ty n => cases r; exact ⟨V.ty n, H', I, rfl, q⟩
/-- the def that an instance has for a dunder -/
def dun (p : Pg) (m : Nat) (x : IV) (h : IHeap) : Option (Nat × Nat) := match x with
  | .ref i => (match h.get i with
    | some (.ins c _) => (match p.att c m with
      | .meth g => some (c, g)
      | _ => none)
    | _ => none)
  | _ => none
theorem dun_at {m : Nat} {x : IV} {V : V} {c g : Nat} (B : Bd T X p d) (R : Rel T ι hp H) (r : RV T ι H x V) (e : dun p m x hp = some (c, g)) :
    ∃ a dx gs, V = .ref a ∧ H a = some (.ins (T.ca c) dx gs) ∧ Cls T.K (T.ca c) ∧ Meth T.K (T.ca c) (T.nm m) (T.fa g) := by
  unfold dun at e
  split at e
  · split at e
    · rename_i i c' fs hi
      have A := B.att c' m
      split at e
      · rename_i g' hatt
        cases e
        rw [hatt] at A
        obtain ⟨a, dx, gs, rfl, ha, hH, rf⟩ := R.ins hi r
        exact ⟨a, dx, gs, rfl, hH, A.1, A.2⟩
      · cases e
    · cases e
  · cases e
def clsOf (x : IV) (h : IHeap) : Option Nat := match x with
  | .ref i => (match h.get i with
    | some (.ins c _) => some c
    | _ => none)
  | _ => none
theorem inst_at (I : Inv X pins σ H s) {a C dx : Addr} {gs : List (Str × V)} (e : H a = some (.ins C dx gs)) : ∃ ox od, PySem.W.InstAt s.heap a ox C (some od) := by
  obtain ⟨mA, O, _⟩ := ins_get I.hok e
  obtain ⟨od, J, _⟩ := O.look
  exact ⟨_, _, J⟩
/-- built-in tags of values -/
def tagOf (x : IV) (h : IHeap) : Option Nat := match x with
  | .non => some 0
  | .bl _ => some 1
  | .int _ => some 2
  | .str _ => some 3
  | .tup _ => some 5
  | .ref i => (match h.items i with
    | some _ => some 4
    | none => none)
  | _ => none
/-- what is known of an operator of an own class and a value of a built-in type -/
structure BinT (K : PySem.W.Frag) (C : Addr) (op : Operator) (ty : String) : Prop where
  sf : PySem.W.selfFirst K C = true
  r : ∃ rc, PySem.W.findIn K (.ref C) (dunderR op.info.2) = some rc ∧ (rc = none ∨ ∃ g : Addr, rc = some (.ref g))
  f1 : ∃ fo, PySem.W.findIn K (.type ty) (PySem.dunder op.info.2) = some fo
  f2 : ∃ ro, PySem.W.findIn K (.type ty) (dunderR op.info.2) = some ro
  sub : PySem.W.subIn K (.type ty) (.ref C) = some false
/-- x op y, x an instance: with an int, with one of its own class -/
def ivOwn (p : Pg) (m : Nat) (bt : Nat → Bool) (sf : Nat → Bool) (base : IV → IV → IHeap → Res IV) (x y : IV) (h : IHeap) : Res IV := match dun p m x h with
  | some (c, g) => (match y with
    | .int _ => cond (bt c) (p.cl g [x, y] h) .bad
    | _ => (match clsOf y h with
      | some c' => cond (Nat.beq c c' && sf c) (p.cl g [x, y] h) .bad
      | none => .bad))
  | none => base x y h
theorem clsOf_at {x : IV} {V : V} {c : Nat} (R : Rel T ι hp H) (r : RV T ι H x V) (e : clsOf x hp = some c) : ∃ a dx gs, V = .ref a ∧ H a = some (.ins (T.ca c) dx gs) := by
  unfold clsOf at e
  split at e
  · split at e
    · rename_i i c' fs hi
      cases e
      obtain ⟨a, dx, gs, rfl, ha, hH, rf⟩ := R.ins hi r
      exact ⟨a, dx, gs, rfl, hH⟩
    · cases e
  · cases e
theorem fr_of (I : Inv X pins σ H s) : ∃ m, Fr X.base X.env.locals s.heap m := I.fr
theorem os_own {op : Operator} {base : IV → IV → IHeap → Res IV} {bt sf : Nat → Bool} (m : Nat) (B : Bd T X p d) (hb : OpS T X (binaryOp op) base) (hn : T.nm m = PySem.dunder op.info.2) (hbt : ∀ c, bt c = true → BinT T.K (T.ca c) op "int")
    (hsf : ∀ c, sf c = true → PySem.W.selfFirst T.K (T.ca c) = true) : OpS T X (binaryOp op) (ivOwn p m bt sf base) := by
  intro W tk pins s σ H x y v u Q ι hp xi yi I rx ry R rxi ryi P
  unfold ivOwn at P
  split at P
  · rename_i c g hd
    obtain ⟨a, dx, gs, rfl, hH, cl, mt⟩ := dun_at B R rxi hd
    cases rx
    obtain ⟨ox, od, J⟩ := inst_at I hH
    obtain ⟨mf, F⟩ := I.fr
    split at P
    · rename_i i
      cases q : bt c with
      | false => rw [q] at P; exact P.elim
      | true =>
        rw [q] at P
        have bb := hbt c q
        obtain ⟨rc, r1, r2⟩ := bb.r
        obtain ⟨fo, f1⟩ := bb.f1
        obtain ⟨ro, f2⟩ := bb.f2
        cases ryi
        obtain ⟨t, rfl⟩ := ry
        refine PySem.W.ksp_binT (T := "int") F I.ok.mod.kin J rfl (B.K ▸ bb.sf) (hn ▸ B.K ▸ mt.at_) (B.K ▸ mt.fn) (B.K ▸ r1) r2 (B.K ▸ f1) (B.K ▸ f2) (B.K ▸ bb.sub) ?_
        exact wpAny_mono (call_s B.K (B.fn g) (B.room.mono (Nat.le_succ _)) W tk pins s σ H [V.ref a, V.int i] [Value.ref a, Value.int i t] Q ι hp [xi, .int i] I (.cons rfl (.cons ⟨t, rfl⟩ .nil)) R (.cons rxi (.cons (.int i) .nil)) P) (fun _ _ => cmpback) fun _ _ z => z
    · split at P
      · rename_i c' hc'
        cases q : (Nat.beq c c' && sf c) with
        | false => rw [q] at P; exact P.elim
        | true =>
          rw [q] at P
          rw [Bool.and_eq_true_iff] at q
          obtain ⟨q1, q2⟩ := q
          have := Nat.eq_of_beq_eq_true q1
          subst this
          obtain ⟨b, dy, gy, rfl, hHb⟩ := clsOf_at R ryi hc'
          cases ry
          obtain ⟨oy, ody, Jy⟩ := inst_at I hHb
          refine PySem.W.binop_K F I.ok.mod.kin J Jy.type (B.K ▸ hsf c q2) (hn ▸ B.K ▸ mt.at_) (B.K ▸ mt.fn) ?_
          exact wpAny_mono (call_s B.K (B.fn g) (B.room.mono (Nat.le_succ _)) W tk pins s σ H [V.ref a, V.ref b] [Value.ref a, Value.ref b] Q ι hp [xi, yi] I (.cons rfl (.cons rfl .nil)) R (.cons rxi (.cons ryi .nil)) P) (fun _ _ => cmpback) fun _ _ z => z
      · exact P.elim
  · exact hb W tk pins s σ H x y v u Q ι hp xi yi I rx ry R rxi ryi P
/-- +x -/
def ivPos (p : Pg) (m : Nat) (x : IV) (h : IHeap) : Res IV := match dun p m x h with
  | some (_, g) => p.cl g [x] h
  | none => .bad
theorem us_pos (m : Nat) (B : Bd T X p d) (hn : T.nm m = ("__pos__" : Str)) : UnS T X (unaryOp .UAdd) (ivPos p m) := by
  intro W tk pins s σ H x v Q ι hp xi I rx R rxi P
  unfold ivPos at P
  split at P
  · rename_i c g hd
    obtain ⟨a, dx, gs, rfl, hH, cl, mt⟩ := dun_at B R rxi hd
    cases rx
    obtain ⟨ox, od, J⟩ := inst_at I hH
    obtain ⟨mf, F⟩ := I.fr
    refine PySem.W.ksp_pos F I.ok.mod.kin J (hn ▸ B.K ▸ mt.at_) (B.K ▸ mt.fn) ?_
    exact call_s B.K (B.fn g) (B.room.mono (Nat.le_succ _)) W tk pins s σ H [V.ref a] [Value.ref a] Q ι hp [xi] I (.cons rfl .nil) R (.cons rxi .nil) P
  · exact P.elim
end
end SV
set_option maxHeartbeats 3999999
namespace SV
open PySem PySem.Spec
open PyProof.Rows L2

/-! ### names of the module, of the builtins, as values -/
section
variable {T : Tab} {X : Cx} {p : Pg} {d : Nat} {W : WX} {pos : Pos}
theorem se_gl {x : Str} {v : IV} {V : V} {u : Value} (hg : Gl X x) (hm : X.mg x = some u) (r : RelV V u) (rv : ∀ ι H, RV T ι H v V) (hd : (x == ("__debug__" : Str)) = false := by decide) : SE T X (.Name x pos) (evC v) := se_c (pe_glob hg hm r hd) rv
theorem se_bt {x : Str} {v : IV} {V : V} {u : Value} (hg : Gl X x) (hm : X.mg x = none) (hv : bootBuiltins x = some u) (r : RelV V u) (rv : ∀ ι H, RV T ι H v V) (hn : x ≠ "__name__" := by decide) (hd : (x == ("__debug__" : Str)) = false := by decide) : SE T X (.Name x pos) (evC v) := se_c (pe_bltn hg hm hv r hn hd) rv

/-! ### isinstance -/
def tcode (p : Pg) (x : IV) (h : IHeap) : Option Nat := match x with
  | .non => some 0
  | .bl _ => some 1
  | .int _ => some 2
  | .str _ => some 3
  | .tup _ => some 5
  | .ref i => (match h.get i with
    | some (.lst _) => some 4
    | some (.frz _) => some 4
    | some (.ins c _) => cond (p.kio c) (some (10 + c)) none
    | some (.dct false _) => some 6
    | some (.fdc false _) => some 6
    | _ => none)
  | _ => none
variable {ι : List Addr} {hp : IHeap} {H : Hp} {Q : VK}
theorem tcode_ty {x : IV} {V : V} {t : Nat} (B : Bd T X p d) (R : Rel T ι hp H) (r : RV T ι H x V) (e : tcode p x hp = some t) : TyX T.K H V (tyc T t) := by
  unfold tcode at e
  split at e
  · cases e; cases r; exact .base .non
  · cases e; cases r; exact .base (.bl _)
  · cases e; cases r; exact .base (.int _)
  · cases e; cases r; exact .base (.str _)
  · cases e
    cases r with
    | tup h r =>
      rcases h with (h | ⟨o, h⟩) | ⟨o, its, n, h, hc, _⟩
      · exact .base (.tup h)
      · exact .fTuple h
      · exact .kTuple h hc
  · split at e
    · rename_i i xs hi
      cases e
      obtain ⟨a, vs, rfl, _, hH, _⟩ := R.lst hi r
      exact .base (.lst hH)
    · rename_i i xs hi
      cases e
      obtain ⟨a, rfl, h1, vs, h2, h3⟩ := R.at hi r
      rcases h2 with ⟨ob, h2⟩ | h2
      · exact .base (.frz h2)
      · rcases h2 with (h2 | ⟨o, h2⟩) | ⟨o, its, n, h, hc, _⟩
        · cases h2
        · cases h2
        · exact .kList h hc
    · rename_i i c fs hi
      cases q : p.kio c with
      | false => rw [q] at e; cases e
      | true =>
        rw [q] at e
        cases e
        obtain ⟨a, dx, gs, rfl, _, hH, _⟩ := R.ins hi r
        have O := B.kio c q
        have : tyc T (10 + c) = .ref (T.ca c) := by
          unfold tyc
          rw [show Nat.blt (10 + c) 10 = false from by unfold Nat.blt; rw [Bool.eq_false_iff]; exact fun z => by have := Nat.le_of_ble_eq_true z; omega]
          show Value.ref (T.ca (10 + c - 10)) = _
          rw [Nat.add_sub_cancel_left]
        rw [this]
        exact .base (.ins hH O.cl O.cls.1 O.cls.2.1 O.cls.2.2.1 O.cls.2.2.2)
    · rename_i i kvs hi
      cases e
      obtain ⟨a, rfl, h1, u, h2, ks, rfl, h3⟩ := R.at hi r
      exact .base (.dK h2)
    · rename_i i kvs hi
      cases e
      obtain ⟨a, rfl, h1, od, u, h2, ks, rfl, h3⟩ := R.at hi r
      exact .fDict h2
    · cases e
  · cases e
def ccode (x : IV) : Option Nat := match x with
  | .ty t => cond (Nat.blt t 10) (some t) none
  | .cls c => some (10 + c)
  | _ => none
def clsV (T : Tab) (t : Nat) : V := cond (Nat.blt t 10) (.ty (tagN t)) (.ref (T.ca (t - 10)))
theorem clsV_ok (t : Nat) : ClsV (clsV T t) (tyc T t) := by
  unfold clsV tyc
  cases Nat.blt t 10
  · exact .own _
  · exact .ty _
theorem ccode_v {x : IV} {V : V} {t : Nat} (r : RV T ι H x V) (e : ccode x = some t) : V = clsV T t := by
  unfold ccode at e
  split at e
  · rename_i k
    cases q : Nat.blt k 10 with
    | false => rw [q] at e; cases e
    | true =>
      rw [q] at e
      cases e
      cases r
      unfold clsV
      rw [q]; rfl
  · rename_i c
    cases e
    cases r
    unfold clsV
    rw [show Nat.blt (10 + c) 10 = false from by unfold Nat.blt; rw [Bool.eq_false_iff]; exact fun z => by have := Nat.le_of_ble_eq_true z; omega]
    show V.ref (T.ca c) = V.ref (T.ca (10 + c - 10))
    rw [Nat.add_sub_cancel_left]
  · cases e
def isiAny (p : Pg) (t : Nat) : List IV → Option Bool
  | [] => some false
  | c :: r => (match ccode c with
    | some k => (match p.isi t k with
      | some true => some true
      | some false => isiAny p t r
      | none => none)
    | none => none)
def ivIsi (p : Pg) (is : List IV) (h : IHeap) : Res IV := match is with
  | [x, c] => (match tcode p x h with
    | some t => (match c with
      | .tup cs => (match isiAny p t cs with
        | some b => .ok (.bl b) h
        | none => .bad)
      | c => (match ccode c with
        | some k => (match p.isi t k with
          | some b => .ok (.bl b) h
          | none => .bad)
        | none => .bad))
    | none => .bad)
  | _ => .bad
theorem clsAll (B : Bd T X p d) {t : Nat} : ∀ {cs : List IV} {vs : List V} {b : Bool}, RVs T ι H cs vs → isiAny p t cs = some b → ∀ {us : List Value}, Vals vs us → PySem.W.kitAny T.K (tyc T t) us = some b ∨ (b = true ∧ ∃ us' us'', us = us' ++ us'' ∧ PySem.W.kitAny T.K (tyc T t) us' = some true)
  | [], _, b, .nil, e, us, ru => by cases e; cases ru; exact .inl rfl
  | c :: cs, v :: vs, b, .cons r rs, e, us, ru => by
    cases ru with
    | cons ru rus =>
    unfold isiAny at e
    split at e
    · rename_i k hk
      have hv := ccode_v r hk
      subst hv
      have eu := (clsV_ok (T := T) k).eq ru
      subst eu
      split at e
      · rename_i hq
        cases e
        exact .inl (kitAny_cons (b := true) (B.isi _ _ _ hq) (fun z => by cases z) fun _ => rfl)
      · rename_i hq
        rcases clsAll B rs e rus with z | ⟨rfl, us', us'', rfl, z⟩
        · exact .inl (kitAny_cons (b := false) (B.isi _ _ _ hq) (fun _ => z) fun z => by cases z)
        · exact .inr ⟨rfl, _ :: us', us'', rfl, kitAny_cons (b := false) (B.isi _ _ _ hq) (fun _ => z) fun z => by cases z⟩
      · cases e
    · cases e
theorem kitAny_app {K : PySem.W.Frag} {t : Value} : ∀ (us us' : List Value), PySem.W.kitAny K t us = some true → PySem.W.kitAny K t (us ++ us') = some true
  | [], _, e => by cases e
  | u :: us, us', e => by
    unfold PySem.W.kitAny at e
    rw [List.cons_append]
    unfold PySem.W.kitAny
    split at e
    · rfl
    · exact kitAny_app us us' e
    · cases e
theorem clsAll' (B : Bd T X p d) {t : Nat} {cs : List IV} {vs : List V} {b : Bool} {us : List Value} (r : RVs T ι H cs vs) (e : isiAny p t cs = some b) (ru : Vals vs us) : PySem.W.kitAny T.K (tyc T t) us = some b := by
  rcases clsAll B r e ru with z | ⟨rfl, us', us'', rfl, z⟩
  · exact z
  · exact kitAny_app _ _ z
theorem cs_isi (B : Bd T X p d) : CallS T X (.builtin "isinstance") (ivIsi p) := by
  intro W tk pins s σ H xs us Q ι hp is I rv R r P
  unfold ivIsi at P
  split at P
  · rename_i x c
    split at P
    · rename_i t ht
      obtain ⟨v, w, rfl, r1, r2⟩ := r.two
      obtain ⟨u1, u2, rfl, ru1, ru2⟩ := vals2 rv
      have ty := tcode_ty B R r1 ht
      obtain ⟨P', Z, pp, hx⟩ := kit_of I ru1 (B.K ▸ ty : TyX X.K H v (tyc T t))
      split at P
      · rename_i cs
        split at P
        · rename_i b hb
          cases r2 with
          | tup h1 r2 =>
            cases ru2
            obtain ⟨its, ri, ⟨⟨cls, dd, data, sl⟩, ho, hc, n, hd⟩, hs⟩ := I.tuple (B.K ▸ h1 : SqT X.K H _ _)
            simp only at hc hd
            subst hc hd
            exact PySem.W.kia_tup Z I.kIn pp ho (B.K ▸ clsAll' B r2 hb ri) hx fun tk => ⟨.bl b, H, I.tok tk, rfl, DV.val P R (.bl b)⟩
        · exact P.elim
      · split at P
        · rename_i k hk
          split at P
          · rename_i b hb
            have := ccode_v r2 hk
            subst this
            have eu := (clsV_ok (T := T) k).eq ru2
            subst eu
            exact PySem.W.kia_one Z I.kIn pp (B.K ▸ B.isi _ _ _ hb) hx fun tk => ⟨.bl b, H, I.tok tk, rfl, DV.val P R (.bl b)⟩
          · exact P.elim
        · exact P.elim
    · exact P.elim
  · exact P.elim

/-! ### is True, is False -/
def beqB (a b : Bool) : Bool := cond a b (!b)
theorem beqB_d (a b : Bool) : beqB a b = decide (a = b) := by cases a <;> cases b <;> rfl
def ivIs (neg : Bool) (x y : IV) (h : IHeap) : Res IV := match y with
  | .non => .ok (.bl (cond neg (!isNon x) (isNon x))) h
  | .bl b => (match x with
    | .bl a => .ok (.bl (cond neg (!beqB a b) (beqB a b))) h
    | .non => .ok (.bl neg) h
    | _ => .bad)
  | _ => .bad
theorem os_is : OpS T X (compareOp .Is) (ivIs false) := by
  intro W tk pins s σ H x y v u Q ι hp xi yi I rx ry R rxi ryi P
  unfold ivIs at P
  split at P
  · exact os_isN W tk pins s σ H x y v u Q ι hp _ _ I rx ry R rxi ryi P
  · split at P
    · cases rxi; cases ryi
      have P := DV.val P R (.bl _)
      dsimp only [cond_false] at P
      rw [beqB_d] at P
      exact L2.op_isBl pins s σ H _ _ v u Q I rx ry ⟨_, _, rfl, rfl, P⟩
    · cases rxi; cases ryi
      cases (show v = Value.none from rx)
      cases (show u = Value.bool _ from ry)
      exact wpAny_is_other rfl (fun z => nomatch z) ⟨.bl false, H, I, rfl, DV.val P R (.bl _)⟩
    · exact P.elim
  · exact P.elim
theorem os_isnot : OpS T X (compareOp .IsNot) (ivIs true) := by
  intro W tk pins s σ H x y v u Q ι hp xi yi I rx ry R rxi ryi P
  unfold ivIs at P
  split at P
  · exact os_notN W tk pins s σ H x y v u Q ι hp _ _ I rx ry R rxi ryi P
  · split at P
    · cases rxi; cases ryi
      have P := DV.val P R (.bl _)
      dsimp only [cond_true] at P
      rw [beqB_d] at P
      exact L2.op_notBl pins s σ H _ _ v u Q I rx ry ⟨_, _, rfl, rfl, P⟩
    · cases rxi; cases ryi
      cases (show v = Value.none from rx)
      cases (show u = Value.bool _ from ry)
      exact wpAny_isNot_other rfl (fun z => nomatch z) ⟨.bl true, H, I, rfl, DV.val P R (.bl _)⟩
    · exact P.elim
  · exact P.elim

/-! ### in a list, in a tuple (data) -/
def ivInD (neg : Bool) (x y : IV) (h : IHeap) : Res IV := match toD h 9 x, toD h 9 y with
  | some d, some (.list ds) => okIf (SeqAt.shaped d && SeqAt.shaped (.list ds)) (.bl (cond neg (!(ds.any fun z => PyData.eqv z d)) (ds.any fun z => PyData.eqv z d))) h
  | some d, some (.tuple ds) => okIf (SeqAt.shaped d && SeqAt.shaped (.tuple ds)) (.bl (cond neg (!(ds.any fun z => PyData.eqv z d)) (ds.any fun z => PyData.eqv z d))) h
  | _, _ => .bad
theorem os_inD (hK : X.K = T.K) (hu : X.A.units + 65 < cLine) : OpS T X (compareOp .In) (ivInD false) := by
  intro W tk pins s σ H x y v u Q ι hp xi yi I rx ry R rxi ryi P
  unfold ivInD at P
  split at P
  · rename_i d ds hd he
    obtain ⟨z, P⟩ := okIf_wp P
    rw [Bool.and_eq_true_iff] at z
    exact L2.op_inD hu pins s σ H _ _ v u Q I rx ry ⟨d, ds, hK ▸ toD_dp R _ _ _ _ rxi hd, hK ▸ toD_dp R _ _ _ _ ryi he, z.1, z.2, DV.val P R (.bl _)⟩
  · rename_i d ds hd he
    obtain ⟨z, P⟩ := okIf_wp P
    rw [Bool.and_eq_true_iff] at z
    obtain ⟨as, r1⟩ := Dp.reads I d x v (hK ▸ toD_dp R _ _ _ _ rxi hd) rx
    obtain ⟨bs, r2⟩ := Dp.reads I (.tuple ds) y u (hK ▸ toD_dp R _ _ _ _ ryi he) ry
    exact SeqAt.in_tuple_reads r2 r1 (SeqAt.canLay_of_shaped z.2) (SeqAt.canLay_of_shaped z.1) (room_in_shaped z.1 hu) ⟨.bl _, H, I, rfl, DV.val P R (.bl _)⟩
  · exact P.elim
theorem os_ninD (hK : X.K = T.K) (hu : X.A.units + 65 < cLine) : OpS T X (compareOp .NotIn) (ivInD true) := by
  intro W tk pins s σ H x y v u Q ι hp xi yi I rx ry R rxi ryi P
  unfold ivInD at P
  split at P
  · rename_i d ds hd he
    obtain ⟨z, P⟩ := okIf_wp P
    rw [Bool.and_eq_true_iff] at z
    exact L2.op_notInD hu pins s σ H _ _ v u Q I rx ry ⟨d, ds, hK ▸ toD_dp R _ _ _ _ rxi hd, hK ▸ toD_dp R _ _ _ _ ryi he, z.1, z.2, DV.val P R (.bl _)⟩
  · rename_i d ds hd he
    obtain ⟨z, P⟩ := okIf_wp P
    rw [Bool.and_eq_true_iff] at z
    obtain ⟨as, r1⟩ := Dp.reads I d x v (hK ▸ toD_dp R _ _ _ _ rxi hd) rx
    obtain ⟨bs, r2⟩ := Dp.reads I (.tuple ds) y u (hK ▸ toD_dp R _ _ _ _ ryi he) ry
    exact SeqAt.notIn_tuple_reads r2 r1 (SeqAt.canLay_of_shaped z.2) (SeqAt.canLay_of_shaped z.1) (room_in_shaped z.1 hu) ⟨.bl _, H, I, rfl, DV.val P R (.bl _)⟩
  · exact P.elim
end
end SV
set_option maxHeartbeats 3999999
namespace SV
open PySem PySem.Spec
open PyProof.Rows L2

/-! ### keys -/
def ieq (i j : Int) : Bool := match i, j with
  | .ofNat a, .ofNat b => Nat.beq a b
  | .negSucc a, .negSucc b => Nat.beq a b
  | _, _ => false
theorem ieq_d (i j : Int) : ieq i j = decide (i = j) := by
  unfold ieq
  split
  · rename_i a b; rw [beqD]; simp; omega
  · rename_i a b; rw [beqD]; simp
  · rename_i h1 h2
    symm
    rw [decide_eq_false_iff_not]
    rintro rfl
    cases i with
    | ofNat a => exact h1 a a rfl rfl
    | negSucc a => exact h2 a a rfl rfl
def leqN : List Nat → List Nat → Bool
  | [], [] => true
  | a :: as, b :: bs => cond (Nat.beq a b) (leqN as bs) false
  | _, _ => false
theorem leqN_d : ∀ (a b : List Nat), leqN a b = decide (a = b)
  | [], [] => rfl
  | [], _ :: _ => rfl
  | _ :: _, [] => rfl
  | a :: as, b :: bs => by
    unfold leqN
    rw [beqD, leqN_d as bs]
    by_cases h : a = b <;> simp [h]
def streq (x y : Str) : Bool := leqN x.cps.toList y.cps.toList
theorem streq_d (x y : Str) : streq x y = decide (x = y) := by
  unfold streq
  rw [leqN_d]
  obtain ⟨⟨a⟩⟩ := x
  obtain ⟨⟨b⟩⟩ := y
  simp
def leq (f : IV → IV → Bool) : List IV → List IV → Bool
  | [], [] => true
  | a :: as, b :: bs => cond (f a b) (leq f as bs) false
  | _, _ => false
def keq : Nat → IV → IV → Bool
  | 0, _, _ => false
  | n + 1, a, b => match a with
    | .non => (match b with
      | .non => true
      | _ => false)
    | .int i => (match b with
      | .int j => ieq i j
      | _ => false)
    | .str x => (match b with
      | .str y => streq x y
      | _ => false)
    | .tup xs => (match b with
      | .tup ys => leq (keq n) xs ys
      | _ => false)
    | _ => false
theorem allSome_cons {α : Type} {o : Option α} {r : List (Option α)} {l : List α} (h : allSome (o :: r) = some l) : ∃ a l', o = some a ∧ allSome r = some l' ∧ l = a :: l' := by
  unfold allSome at h
  split at h
  · rename_i e; cases e
  · rename_i e; cases e; cases h
  · rename_i a r' e
    cases e
    split at h
    · cases h
    · rename_i l' hl
      cases h
      exact ⟨a, l', rfl, hl, rfl⟩
theorem keq_d : ∀ (n : Nat) (a b : IV) (ka kb : NestedKey), nk n a = some ka → nk n b = some kb → keq n a b = decide (ka = kb)
  | 0, _, _, _, _, h, _ => by cases h
  | n + 1, a, b, ka, kb, h1, h2 => by
    have lst : ∀ (xs ys : List IV) (ks ls : List NestedKey), allSome (xs.map (nk n)) = some ks → allSome (ys.map (nk n)) = some ls → leq (keq n) xs ys = decide (ks = ls) := by
      intro xs
      induction xs with
      | nil =>
        intro ys ks ls e1 e2
        cases e1
        cases ys with
        | nil => cases e2; rfl
        | cons y ys =>
          rw [List.map_cons] at e2
          obtain ⟨a, l', _, _, rfl⟩ := allSome_cons e2
          rfl
      | cons x xs ih =>
        intro ys ks ls e1 e2
        rw [List.map_cons] at e1
        obtain ⟨k, ks', hk, hks, rfl⟩ := allSome_cons e1
        cases ys with
        | nil => cases e2; rfl
        | cons y ys =>
          rw [List.map_cons] at e2
          obtain ⟨l, ls', hl, hls, rfl⟩ := allSome_cons e2
          show cond (keq n x y) (leq (keq n) xs ys) false = _
          rw [keq_d n x y k l hk hl, ih ys ks' ls' hks hls]
          by_cases h : k = l <;> simp [h]
    cases a with
    | non => cases h1; cases b with
      | non => cases h2; rfl
      | int j => cases h2; simp [keq]
      | str y => cases h2; simp [keq]
      | tup ys => obtain ⟨ls, _, rfl⟩ := Option.map_eq_some_iff.mp (show (allSome (ys.map (nk n))).map NestedKey.tup = some kb from h2); simp [keq]
      | _ => cases h2
    | int i => cases h1; cases b with
      | non => cases h2; simp [keq]
      | int j => cases h2; show ieq i j = _; rw [ieq_d]; simp
      | str y => cases h2; simp [keq]
      | tup ys => obtain ⟨ls, _, rfl⟩ := Option.map_eq_some_iff.mp (show (allSome (ys.map (nk n))).map NestedKey.tup = some kb from h2); simp [keq]
      | _ => cases h2
    | str x => cases h1; cases b with
      | non => cases h2; simp [keq]
      | int j => cases h2; simp [keq]
      | str y => cases h2; show streq x y = _; rw [streq_d]; simp
      | tup ys => obtain ⟨ls, _, rfl⟩ := Option.map_eq_some_iff.mp (show (allSome (ys.map (nk n))).map NestedKey.tup = some kb from h2); simp [keq]
      | _ => cases h2
    | tup xs =>
      obtain ⟨ks, e1, rfl⟩ := Option.map_eq_some_iff.mp (show (allSome (xs.map (nk n))).map NestedKey.tup = some ka from h1)
      cases b with
      | non => cases h2; simp [keq]
      | int j => cases h2; simp [keq]
      | str y => cases h2; simp [keq]
      | tup ys =>
        obtain ⟨ls, e2, rfl⟩ := Option.map_eq_some_iff.mp (show (allSome (ys.map (nk n))).map NestedKey.tup = some kb from h2)
        show leq (keq n) xs ys = _
        rw [lst xs ys ks ls e1 e2]
        simp
      | _ => cases h2
    | _ => cases h1
def lall (f : IV → Bool) : List IV → Bool
  | [] => true
  | a :: as => cond (f a) (lall f as) false
def okK : Nat → IV → Bool
  | 0, _ => false
  | n + 1, a => match a with
    | .non => true
    | .int _ => true
    | .str _ => true
    | .tup xs => lall (okK n) xs
    | _ => false
theorem okK_nk : ∀ (n : Nat) (a : IV), okK n a = true → ∃ k, nk n a = some k
  | 0, _, h => by cases h
  | n + 1, a, h => by
    cases a with
    | non => exact ⟨_, rfl⟩
    | int i => exact ⟨_, rfl⟩
    | str x => exact ⟨_, rfl⟩
    | tup xs =>
      have : ∀ xs : List IV, lall (okK n) xs = true → ∃ ks, allSome (xs.map (nk n)) = some ks := by
        intro xs
        induction xs with
        | nil => exact fun _ => ⟨[], rfl⟩
        | cons x xs ih =>
          intro q
          have q : cond (okK n x) (lall (okK n) xs) false = true := q
          cases e : okK n x with
          | false => rw [e] at q; cases q
          | true =>
            rw [e] at q
            obtain ⟨k, hk⟩ := okK_nk n x e
            obtain ⟨ks, hks⟩ := ih q
            refine ⟨k :: ks, ?_⟩
            rw [List.map_cons, hk]
            unfold allSome
            rw [hks]
      obtain ⟨ks, hks⟩ := this xs h
      exact ⟨.tup ks, show (allSome (xs.map (nk n))).map NestedKey.tup = _ by rw [hks]; rfl⟩
    | _ => cases h
/-- a key that a dict of this kind takes -/
def kvalid (t : Bool) (k : IV) : Bool := match t with
  | false => (match k with
    | .int _ => true
    | .str _ => true
    | _ => false)
  | true => (match k with
    | .tup _ => okK 8 k
    | _ => false)
theorem kvalid_k {k : IV} (h : kvalid false k = true) : ∃ kk, k = keyIV kk := by
  cases k with
  | int i => exact ⟨.inl i, rfl⟩
  | str x => exact ⟨.inr x, rfl⟩
  | _ => cases h
theorem kvalid_t {k : IV} (h : kvalid true k = true) : (∃ xs, k = .tup xs) ∧ ∃ kk, nk 8 k = some kk := by
  cases k with
  | tup xs => exact ⟨⟨xs, rfl⟩, okK_nk 8 _ h⟩
  | _ => cases h
def dfind (k : IV) : List (IV × IV) → Option IV
  | [] => none
  | (k', v) :: r => cond (keq 8 k' k) (some v) (dfind k r)
def dhas (k : IV) : List (IV × IV) → Bool
  | [] => false
  | (k', _) :: r => cond (keq 8 k' k) true (dhas k r)
def drepl (k v : IV) : List (IV × IV) → List (IV × IV)
  | [] => []
  | (k', u) :: r => (k', cond (keq 8 k' k) v u) :: drepl k v r
def dput (k v : IV) (kvs : List (IV × IV)) : List (IV × IV) := cond (dhas k kvs) (drepl k v kvs) (kvs ++ [(k, v)])
theorem dhas_find (k : IV) : ∀ kvs, dhas k kvs = (dfind k kvs).isSome
  | [] => rfl
  | (k', v) :: r => by
    unfold dhas dfind
    rw [dhas_find k r]
    cases keq 8 k' k <;> rfl
theorem keq_key (a b : Key) : keq 8 (keyIV a) (keyIV b) = decide (a = b) := by
  cases a with
  | inl i => cases b with
    | inl j => show ieq i j = _; rw [ieq_d]; simp
    | inr y => simp [keq, keyIV]
  | inr x => cases b with
    | inl j => simp [keq, keyIV]
    | inr y => show streq x y = _; rw [streq_d]; simp

section
variable {T : Tab} {ι : List Addr} {H : Hp}
theorem rk_find {k : Key} : ∀ {kvs : List (IV × IV)} {ks : List (Key × V)}, Paired (fun (kv : IV × IV) (q : Key × V) => kv.1 = keyIV q.1 ∧ RV T ι H kv.2 q.2) kvs ks → (∀ v, dfind (keyIV k) kvs = some v → ∃ V, valV ks k = some V ∧ RV T ι H v V) ∧ (dfind (keyIV k) kvs = none → valV ks k = none)
  | _, _, .nil => ⟨(fun v q => nomatch q), fun _ => rfl⟩
  | (k', v') :: kvs, (q, w) :: ks, .cons ⟨e, r⟩ t => by
    subst e
    have ih := rk_find (k := k) t
    unfold dfind
    rw [keq_key]
    by_cases h : q = k
    · rw [decide_eq_true h, valV_pos h]
      exact ⟨fun v z => ⟨w, rfl, (Option.some.inj z) ▸ r⟩, (fun z => nomatch z)⟩
    · rw [decide_eq_false h, valV_neg h]
      exact ih
theorem rk_repl {k : Key} {v : IV} {V : V} (rv : RV T ι H v V) : ∀ {kvs : List (IV × IV)} {ks : List (Key × L2.V)}, Paired (fun (kv : IV × IV) (q : Key × L2.V) => kv.1 = keyIV q.1 ∧ RV T ι H kv.2 q.2) kvs ks → Paired (fun (kv : IV × IV) (q : Key × L2.V) => kv.1 = keyIV q.1 ∧ RV T ι H kv.2 q.2) (drepl (keyIV k) v kvs) (ks.map fun kv => if kv.1 = k then (kv.1, V) else kv)
  | _, _, .nil => .nil
  | (k', v') :: kvs, (q, w) :: ks, .cons ⟨e, r⟩ t => by
    subst e
    have ih := rk_repl (k := k) rv t
    rw [List.map_cons]
    unfold drepl
    rw [keq_key]
    by_cases h : q = k
    · rw [decide_eq_true h, if_pos h]
      exact .cons ⟨rfl, rv⟩ ih
    · rw [decide_eq_false h, if_neg h]
      exact .cons ⟨rfl, r⟩ ih
theorem paired_snoc {α β : Type} {G : α → β → Prop} {a : α} {b : β} (h : G a b) : ∀ {as : List α} {bs : List β}, Paired G as bs → Paired G (as ++ [a]) (bs ++ [b])
  | _, _, .nil => .cons h .nil
  | _, _, .cons r t => .cons r (paired_snoc h t)
theorem rk_put {k : Key} {v : IV} {V : L2.V} {kvs : List (IV × IV)} {ks : List (Key × L2.V)} (rv : RV T ι H v V) (r : Paired (fun (kv : IV × IV) (q : Key × L2.V) => kv.1 = keyIV q.1 ∧ RV T ι H kv.2 q.2) kvs ks) :
    Paired (fun (kv : IV × IV) (q : Key × L2.V) => kv.1 = keyIV q.1 ∧ RV T ι H kv.2 q.2) (dput (keyIV k) v kvs) (putK ks k V) := by
  have f := rk_find (k := k) r
  unfold dput
  rw [dhas_find]
  cases h : dfind (keyIV k) kvs with
  | none =>
    rw [putK_new V (f.2 h)]
    exact paired_snoc ⟨rfl, rv⟩ r
  | some w =>
    obtain ⟨W, hW, _⟩ := f.1 w h
    have : putK ks k V = ks.map fun kv => if kv.1 = k then (kv.1, V) else kv := by
      unfold putK
      rw [valV_any, hW]
      rfl
    rw [this]
    exact rk_repl rv r

/-! #### nested -/
abbrev RN (T : Tab) (ι : List Addr) (H : Hp) : (IV × IV) → (NestedKey × Addr × L2.V) → Prop := fun kv x => nk 8 kv.1 = some x.1 ∧ RV T ι H kv.1 (.ref x.2.1) ∧ RV T ι H kv.2 x.2.2
abbrev NW : (NestedKey × Addr × L2.V) → (NestedKey × Addr × Value) → Prop := fun p q => p.1 = q.1 ∧ p.2.1 = q.2.1 ∧ RelV p.2.2 q.2.2
def xput (xs : List (NestedKey × Addr × L2.V)) (k : NestedKey) (b : Addr) (v : L2.V) (has : Bool) : List (NestedKey × Addr × L2.V) := if has = true then xs.map (fun x => if x.1 = k then (x.1, x.2.1, v) else x) else xs ++ [(k, b, v)]
theorem atKey_pos {q : NestedKey × Addr × Value} {r : List (NestedKey × Addr × Value)} {k : NestedKey} (e : q.1 = k) : atKey (q :: r) k = some q.2 := by simp [atKey, List.find?_cons, e]
theorem atKey_neg {q : NestedKey × Addr × Value} {r : List (NestedKey × Addr × Value)} {k : NestedKey} (e : ¬ q.1 = k) : atKey (q :: r) k = atKey r k := by simp [atKey, List.find?_cons, e]
theorem rn_find {k : IV} {kk : NestedKey} (hk : nk 8 k = some kk) : ∀ {kvs : List (IV × IV)} {xs : List (NestedKey × Addr × L2.V)} {ws : List (NestedKey × Addr × Value)}, Paired (RN T ι H) kvs xs → Paired NW xs ws →
    (∀ v, dfind k kvs = some v → ∃ b V u, atKey ws kk = some (b, u) ∧ RelV V u ∧ RV T ι H v V) ∧ (dfind k kvs = none → atKey ws kk = none)
  | _, _, _, .nil, .nil => ⟨(fun v q => nomatch q), fun _ => rfl⟩
  | (k', v') :: kvs, x :: xs, w :: ws, .cons ⟨e, r1, r2⟩ t, .cons ⟨e1, e2, e3⟩ t' => by
    have ih := rn_find hk t t'
    unfold dfind
    rw [keq_d 8 _ _ _ _ e hk]
    by_cases h : x.1 = kk
    · rw [decide_eq_true h, atKey_pos (e1 ▸ h)]
      exact ⟨fun v z => ⟨w.2.1, x.2.2, w.2.2, rfl, e3, (Option.some.inj z) ▸ r2⟩, (fun z => nomatch z)⟩
    · rw [decide_eq_false h, atKey_neg (e1 ▸ h)]
      exact ih
theorem rn_repl {k : IV} {kk : NestedKey} {v : IV} {V : L2.V} (hk : nk 8 k = some kk) (rv : RV T ι H v V) : ∀ {kvs : List (IV × IV)} {xs : List (NestedKey × Addr × L2.V)}, Paired (RN T ι H) kvs xs → Paired (RN T ι H) (drepl k v kvs) (xs.map (fun x => if x.1 = kk then (x.1, x.2.1, V) else x))
  | _, _, .nil => .nil
  | (k', v') :: kvs, x :: xs, .cons ⟨e, r1, r2⟩ t => by
    have ih := rn_repl hk rv t
    rw [List.map_cons]
    unfold drepl
    rw [keq_d 8 _ _ _ _ e hk]
    by_cases h : x.1 = kk
    · rw [decide_eq_true h, if_pos h]
      exact .cons ⟨e, r1, rv⟩ ih
    · rw [decide_eq_false h, if_neg h]
      exact .cons ⟨e, r1, r2⟩ ih
theorem nw_repl {kk : NestedKey} {V : L2.V} {u : Value} (r : RelV V u) : ∀ {xs : List (NestedKey × Addr × L2.V)} {ws : List (NestedKey × Addr × Value)}, Paired NW xs ws → Paired NW (xs.map (fun x => if x.1 = kk then (x.1, x.2.1, V) else x)) (ws.map (putAt kk u))
  | _, _, .nil => .nil
  | x :: xs, w :: ws, .cons ⟨e1, e2, e3⟩ t => by
    simp only [List.map_cons]
    have ih := nw_repl (kk := kk) r t
    unfold putAt
    by_cases h : x.1 = kk
    · rw [if_pos h, if_pos (e1 ▸ h)]
      exact .cons ⟨e1, e2, r⟩ ih
    · rw [if_neg h, if_neg (e1 ▸ h)]
      exact .cons ⟨e1, e2, e3⟩ ih
end
end SV
set_option maxHeartbeats 3999999
namespace SV
open PySem PySem.Spec
open PyProof.Rows L2

section
variable {T : Tab} {X : Cx} {p : Pg} {d : Nat} {W : WX} {pins : List (Addr × Obj)} {s : Shared} {σ : Sl} {σi : ISt} {ι : List Addr} {hp : IHeap} {H : Hp} {Q : VK}
mutual
theorem nk_is (I : Inv X pins σ H s) (hK : X.K = T.K) : ∀ (n : Nat) (x : IV) (V : L2.V) (u : Value) (k : NestedKey), RV T ι H x V → nk n x = some k → RelV V u → NestedIs s.heap k u ∧ k.depth ≤ n
  | 0, _, _, _, _, _, h, _ => by cases h
  | n + 1, .non, _, _, _, r, h, ru => by cases r; cases h; cases ru; exact ⟨.none, by simp [NestedKey.depth]⟩
  | n + 1, .int i, _, _, _, r, h, ru => by cases r; cases h; obtain ⟨t, rfl⟩ := ru; exact ⟨.int i t, by simp [NestedKey.depth]⟩
  | n + 1, .str x, _, _, _, r, h, ru => by cases r; cases h; obtain ⟨t, rfl⟩ := ru; exact ⟨.text x t, by simp [NestedKey.depth]⟩
  | n + 1, .tup xs, _, _, _, r, h, ru => by
    obtain ⟨ks, e1, rfl⟩ := Option.map_eq_some_iff.mp (show (allSome (xs.map (nk n))).map NestedKey.tup = _ from h)
    cases r with
    | tup h1 r1 =>
      cases ru
      obtain ⟨its, ri, ⟨⟨cls, dd, data, sl⟩, ho, hc, m, hd⟩, hs⟩ := I.tuple (hK ▸ h1 : SqT X.K H _ _)
      obtain ⟨a1, a2⟩ := nk_all I hK n xs _ _ ks r1 e1 ri
      refine ⟨.tup ho hc hd (by simpa using a1), ?_⟩
      simp only [NestedKey.depth]
      omega
  | n + 1, .bl b, _, _, _, r, h, ru => by cases h
  | n + 1, .ref b, _, _, _, r, h, ru => by cases h
  | n + 1, .cls b, _, _, _, r, h, ru => by cases h
  | n + 1, .fn b, _, _, _, r, h, ru => by cases h
  | n + 1, .ty b, _, _, _, r, h, ru => by cases h
  | n + 1, .kd b, _, _, _, r, h, ru => by cases h
theorem nk_all (I : Inv X pins σ H s) (hK : X.K = T.K) (n : Nat) : ∀ (xs : List IV) (vs : List L2.V) (us : List Value) (ks : List NestedKey), RVs T ι H xs vs → allSome (xs.map (nk n)) = some ks → Vals vs us → NestedAll s.heap ks us ∧ NestedKey.depthAll ks ≤ n
  | [], _, _, ks, r, h, ru => by
    cases r; cases h; cases ru
    exact ⟨.nil, by simp [NestedKey.depthAll]⟩
  | x :: xs, _, _, ks, r, h, ru => by
    rw [List.map_cons] at h
    obtain ⟨k, ks', hk, hks, rfl⟩ := allSome_cons h
    cases r with
    | cons r rs =>
      cases ru with
      | cons ru rus =>
        obtain ⟨a1, a2⟩ := nk_is I hK n x _ _ k r hk ru
        obtain ⟨b1, b2⟩ := nk_all I hK n xs _ _ ks' rs hks rus
        exact ⟨.cons a1 b1, by simp only [NestedKey.depthAll]; omega⟩
end
theorem nk_key (I : Inv X pins σ H s) (hK : X.K = T.K) {x : IV} {b : Addr} {k : NestedKey} (r : RV T ι H x (.ref b)) (h : nk 8 x = some k) : (nestedKind X.prog X.w).is s.heap k b := by
  obtain ⟨a1, a2⟩ := nk_is I hK 8 x _ (.ref b) k r h rfl
  exact ⟨a1, by omega⟩

/-! ### what stands at a dict -/
def dctOf (x : IV) (h : IHeap) : Option (Bool × List (IV × IV)) := match x with
  | .ref i => (match h.get i with
    | some (.dct t kvs) => some (t, kvs)
    | some (.fdc t kvs) => some (t, kvs)
    | _ => none)
  | _ => none
/-- the entries as they stand -/
def DAt (T : Tab) (X : Cx) (ι : List Addr) (H : Hp) (h : Heap) (a : Addr) (kvs : List (IV × IV)) : Bool → Prop
  | false => ∃ ks, Rd H a (.dK ks) ∧ Paired (fun (kv : IV × IV) (q : Key × L2.V) => kv.1 = keyIV q.1 ∧ RV T ι H kv.2 q.2) kvs ks
  | true => ∃ xs ws, h.DictOfH (nestedKind X.prog X.w) a ws ∧ Paired (RN T ι H) kvs xs ∧ Paired NW xs ws ∧ xs.length ≤ sizeLine ∧ (a == sysModules) = false
theorem rn_is (I : Inv X pins σ H s) (hK : X.K = T.K) : ∀ {kvs : List (IV × IV)} {xs : List (NestedKey × Addr × L2.V)} {ws : List (NestedKey × Addr × Value)}, Paired (RN T ι H) kvs xs → Paired NW xs ws → ∀ x ∈ ws, (nestedKind X.prog X.w).is s.heap x.1 x.2.1
  | _, _, _, .nil, .nil => fun x h => by cases h
  | kv :: kvs, x :: xs, w :: ws, .cons ⟨e, r1, r2⟩ t, .cons ⟨e1, e2, e3⟩ t' => fun y hy => by
    exact (List.mem_cons.mp hy).elim (fun q => by rw [q, ← e1, ← e2]; exact nk_key I hK r1 e) (rn_is I hK t t' y)
theorem dat_of (B : Bd T X p d) (I : Inv X pins σ H s) {u : HO} {a : Addr} {t : Bool} {kvs : List (IV × IV)} (h : Rd H a u) (o : ORd T ι H t kvs u a) : DAt T X ι H s.heap a kvs t := by
  cases t with
  | false => obtain ⟨ks, rfl, r⟩ := o; exact ⟨ks, h, r⟩
  | true =>
    obtain ⟨xs, rfl, r⟩ := o
    have q : ObjOk X.prog X.w H s.heap a (DnO T.P T.w a xs) := rd_of I.hok h
    rw [← B.hP, ← B.hw] at q
    obtain ⟨⟨ws, ob, es, ep, nw, hl, hs, ho, hx, hd, he, hn⟩, _⟩ := q
    exact ⟨xs, ws, ⟨ob, es, ep, ho, hx, hd, he, rn_is I B.K r nw, hn⟩, r, nw, hl, hs⟩
theorem dctOf_at (B : Bd T X p d) (I : Inv X pins σ H s) (R : Rel T ι hp H) {x : IV} {V : L2.V} {t : Bool} {kvs : List (IV × IV)} (r : RV T ι H x V) (e : dctOf x hp = some (t, kvs)) : ∃ a, V = .ref a ∧ DAt T X ι H s.heap a kvs t := by
  unfold dctOf at e
  split at e
  · split at e
    · rename_i i t' kvs' hi
      cases e
      obtain ⟨a, rfl, h1, u, h2, h3⟩ := R.at hi r
      exact ⟨a, rfl, dat_of B I (.inl h2) h3⟩
    · rename_i i t' kvs' hi
      cases e
      obtain ⟨a, rfl, h1, od, u, h2, h3⟩ := R.at hi r
      exact ⟨a, rfl, dat_of B I (.inr ⟨od, h2⟩) h3⟩
    · cases e
  · cases e
theorem dat_type (I : Inv X pins σ H s) {a : Addr} {t : Bool} {kvs : List (IV × IV)} (D : DAt T X ι H s.heap a kvs t) : s.TypeIs (.ref a) "dict" := by
  cases t with
  | false => obtain ⟨ks, h, _⟩ := D; exact dict_typeIs (y := kV (.inl 0)) I (.inl ⟨ks, .inl 0, h, rfl, rfl⟩)
  | true => obtain ⟨xs, ws, h, _⟩ := D; exact h.typeIs

/-! ### in, [] -/
def ivInK (p : Pg) (neg : Bool) (base : IV → IV → IHeap → Res IV) (x y : IV) (h : IHeap) : Res IV := match dctOf y h with
  | some (t, kvs) => cond (kvalid t x) (.ok (.bl (cond neg (!dhas x kvs) (dhas x kvs))) h) .bad
  | none => (match y with
    | .kd k => (match x with
      | .str z => (match p.kd k with
        | [] => .bad
        | l => .ok (.bl (cond neg (!(sfind z l).isSome) (sfind z l).isSome)) h)
      | _ => .bad)
    | _ => base x y h)
theorem find_isSome {a : Addr} {t : Bool} {kvs : List (IV × IV)} {x : IV} {V : L2.V} {u : Value} (B : Bd T X p d) (I : Inv X pins σ H s) (D : DAt T X ι H s.heap a kvs t) (r : RV T ι H x V) (ru : RelV V u) (hv : kvalid t x = true) {E : Value → Shared → Prop} {Qf : Value → Shared → Prop} (neg : Bool)
    (h : ∀ s', Inv X pins σ H s' → Qf (.bool (cond neg (!dhas x kvs) (dhas x kvs))) s') : wpAny (model X.prog X.w) X.A (compareOp (cond neg .NotIn .In) u (.ref a)) Qf E s := by
  have hu := B.hu
  rw [dhas_find] at h
  cases t with
  | false =>
    obtain ⟨ks, h1, h2⟩ := D
    obtain ⟨kk, rfl⟩ := kvalid_k hv
    have hV : V = kV kk := by cases kk <;> cases r <;> rfl
    subst hV
    have f := rk_find (k := kk) h2
    have e : (dfind (keyIV kk) kvs).isSome = (valV ks kk).isSome := by
      cases q : dfind (keyIV kk) kvs with
      | none => rw [f.2 q]; rfl
      | some v => obtain ⟨V, hV, _⟩ := f.1 v q; rw [hV]; rfl
    rw [e] at h
    cases neg with
    | false => exact d_in (by omega) I (.inl ⟨ks, kk, h1, rfl, rfl⟩) ru h
    | true => exact d_notIn (by omega) I (.inl ⟨ks, kk, h1, rfl, rfl⟩) ru h
  | true =>
    obtain ⟨xs, ws, hm, h2, h3, hl, hs⟩ := D
    obtain ⟨⟨ys, rfl⟩, kk, hk⟩ := kvalid_t hv
    have f := rn_find hk h2 h3
    have e : (dfind (.tup ys) kvs).isSome = (atKey ws kk).isSome := by
      cases q : dfind (.tup ys) kvs with
      | none => rw [f.2 q]; rfl
      | some v => obtain ⟨b, V, u, hV, _⟩ := f.1 v q; rw [hV]; rfl
    rw [e] at h
    cases r with
    | tup ht rt =>
      cases ru
      have hkey := nk_key I B.K (RV.tup ht rt) hk
      have room : (nestedKind X.prog X.w).room X.A.in1 := by show X.A.in1.units + 8 < cLine; show X.A.units + 1 + 8 < cLine; omega
      cases neg with
      | false => exact wpAny_in_heap room hkey hs hm (h _ (I.tok _))
      | true => exact wpAny_notIn_heap room hkey hs hm (h _ (I.tok _))
theorem os_inK {neg : Bool} {base : IV → IV → IHeap → Res IV} (B : Bd T X p d) (hb : OpS T X (compareOp (cond neg .NotIn .In)) base) : OpS T X (compareOp (cond neg .NotIn .In)) (ivInK p neg base) := by
  intro W tk pins s σ H x y v u Q ι hp xi yi I rx ry R rxi ryi P
  unfold ivInK at P
  split at P
  · rename_i t kvs hd
    obtain ⟨a, rfl, D⟩ := dctOf_at B I R ryi hd
    cases ry
    cases hv : kvalid t xi with
    | false => rw [hv] at P; exact P.elim
    | true =>
      rw [hv] at P
      exact find_isSome B I D rxi rx hv neg fun s' I' => ⟨.bl _, H, I', rfl, DV.val P R (.bl _)⟩
  · split at P
    · rename_i k _
      split at P
      · rename_i z
        split at P
        · exact P.elim
        · rename_i l hl
          cases ryi; cases rxi
          obtain ⟨⟨es, n, D⟩, f⟩ := B.kd k hl
          have f := f z
          obtain ⟨o, ho, ho2⟩ : ∃ o, PySem.W.nsIn X.K (T.kd k) z = some o ∧ o.isSome = (sfind z (p.kd k)).isSome := by
            rw [B.K]
            cases q : sfind z (p.kd k) with
            | none => exact ⟨none, f.2 q, rfl⟩
            | some v => obtain ⟨t, ht⟩ := f.1 v q; exact ⟨_, ht, rfl⟩
          have P := DV.val P R (.bl _)
          rw [← ho2] at P
          cases neg with
          | false => exact op_in_kd (B.K ▸ D) pins s σ H _ _ v u Q I rx ry ⟨z, o, rfl, rfl, ho, P⟩
          | true => exact op_notIn_kd (B.K ▸ D) pins s σ H _ _ v u Q I rx ry ⟨z, o, rfl, rfl, ho, P⟩
      · exact P.elim
    · exact hb W tk pins s σ H x y v u Q ι hp xi yi I rx ry R rxi ryi P
def ivIxK (p : Pg) (base : IV → IV → IHeap → Res IV) (x y : IV) (h : IHeap) : Res IV := match dctOf x h with
  | some (t, kvs) => cond (kvalid t y) (optR (dfind y kvs) h) .bad
  | none => (match x with
    | .kd k => (match y with
      | .str z => (match p.kd k with
        | [] => .bad
        | l => (match sfind z l with
          | some v => .ok (.str v) h
          | none => .bad))
      | _ => .bad)
    | _ => base x y h)
theorem dget_ok {a : Addr} {t : Bool} {kvs : List (IV × IV)} {x v : IV} {V : L2.V} {u : Value} (B : Bd T X p d) (I : Inv X pins σ H s) (D : DAt T X ι H s.heap a kvs t) (r : RV T ι H x V) (ru : RelV V u) (hv : kvalid t x = true) (hf : dfind x kvs = some v) {E : Value → Shared → Prop} {Qf : Value → Shared → Prop}
    (h : ∀ s' V' u', Inv X pins σ H s' → RelV V' u' → RV T ι H v V' → Qf u' s') : wpAny (model X.prog X.w) X.A (getItem (.ref a) u) Qf E s := by
  have hu := B.hu
  cases t with
  | false =>
    obtain ⟨ks, h1, h2⟩ := D
    obtain ⟨kk, rfl⟩ := kvalid_k hv
    have hV : V = kV kk := by cases kk <;> cases r <;> rfl
    subst hV
    obtain ⟨V', hV', rv⟩ := (rk_find (k := kk) h2).1 v hf
    exact d_getItem (v := V') (by omega) I (.inl ⟨ks, kk, h1, rfl, hV'.symm⟩) ru fun w' s' I' rw' => h s' V' w' I' rw' rv
  | true =>
    obtain ⟨xs, ws, hm, h2, h3, hl, hs⟩ := D
    obtain ⟨⟨ys, rfl⟩, kk, hk⟩ := kvalid_t hv
    obtain ⟨b, V', u', hV', e, rv⟩ := (rn_find hk h2 h3).1 v hf
    cases r with
    | tup ht rt =>
      cases ru
      have hkey := nk_key I B.K (RV.tup ht rt) hk
      have room : (nestedKind X.prog X.w).room X.A.in1 := by show X.A.in1.units + 8 < cLine; show X.A.units + 1 + 8 < cLine; omega
      exact wpAny_getItem_heap room hkey hm hV' (h _ V' u' (I.tok _) e rv)
theorem is_ixK {base : IV → IV → IHeap → Res IV} (B : Bd T X p d) (hb : IxS T X base) : IxS T X (ivIxK p base) := by
  intro W tk value slice pins s σ H x y v u Q ι hp xi yi I rx ry R rxi ryi P hs
  unfold ivIxK at P
  split at P
  · rename_i t kvs hd
    obtain ⟨a, rfl, D⟩ := dctOf_at B I R rxi hd
    cases rx
    cases hv : kvalid t yi with
    | false => rw [hv] at P; exact P.elim
    | true =>
      rw [hv] at P
      obtain ⟨w, hw, P⟩ := optR_wp P
      exact tail_any (dat_type I D) PySem.F.slot_dict_getitem.lookup (dget_ok B I D ryi ry hv hw fun s' V' u' I' ru' rv' => ⟨V', H, I', ru', DV.val P R rv'⟩) hs
  · split at P
    · rename_i k _
      split at P
      · rename_i z
        split at P
        · exact P.elim
        · rename_i l hl
          split at P
          · rename_i vv hq
            cases ryi; cases rxi
            obtain ⟨⟨es, n, D⟩, f⟩ := B.kd k hl
            obtain ⟨t, ht⟩ := (f z).1 vv hq
            cases rx
            exact tail_any (kd_type (B.K ▸ D) I) PySem.F.slot_dict_getitem.lookup (op_item_kd (B.K ▸ D) pins s σ H (.ref (T.kd k)) _ _ u Q I rfl ry ⟨z, _, .str vv, rfl, rfl, by rw [B.K]; exact ht, ⟨t, rfl⟩, DV.val P R (.str _)⟩) hs
          · exact P.elim
      · exact P.elim
    · exact hb W tk value slice pins s σ H x y v u Q ι hp xi yi I rx ry R rxi ryi P hs
end
end SV
set_option maxHeartbeats 3999999
namespace SV
open PySem PySem.Spec
open PyProof.Rows L2

section
variable {T : Tab} {X : Cx} {p : Pg} {d : Nat} {W : WX} {pins : List (Addr × Obj)} {s : Shared} {σ : Sl} {σi : ISt} {ι : List Addr} {hp : IHeap} {H : Hp} {Q : VK}
/-! ### o[i] = v -/
def DU (T : Tab) (ι : List Addr) (H : Hp) (Qh : Hp → Prop) : IV → IHeap → Prop := fun _ h' => ∀ ι' H', Rel T ι' h' H' → Ext ι H ι' H' → Qh H'
theorem DU.up {ι' : List Addr} {H' : Hp} {Qh : Hp → Prop} {v : IV} {h : IHeap} (e : Ext ι H ι' H') (q : DU T ι H Qh v h) : DU T ι' H' Qh v h := fun _ _ R e' => q _ _ R (e.trans e')
def StS (T : Tab) (X : Cx) (g : IV → IV → IV → IHeap → Res IV) : Prop :=
  ∀ (W : WX), Takes X W → ∀ (pins : List (Addr × Obj)) (s : Shared) (σ : Sl) (H : Hp) (o i v : L2.V) (ov iv u : Value) (Qh : Hp → Prop) (ι : List Addr) (hp : IHeap) (oi ii vi : IV), Inv X pins σ H s → RelV o ov → RelV i iv → RelV v u → Rel T ι hp H →
    RV T ι H oi o → RV T ι H ii i → RV T ι H vi v → (g oi ii vi hp).wp (DU T ι H Qh) (DX T ι H W σ) → wpAny (model X.prog X.w) X.A (setItem ov iv u) (fun _ s' => ∃ H', Inv X pins σ H' s' ∧ Qh H') X.xe s
def esSub (g : IV → IV → IV → IHeap → Res IV) (fo fi fv : Ev) : EvS := fun σ h => (fv σ h).st σ fun v h1 => (fo σ h1).st σ fun o h2 => (fi σ h2).st σ fun i h3 => (g o i v h3).st σ fun _ h4 => .nx σ h4
theorem ss_sub {g : IV → IV → IV → IHeap → Res IV} {o i value : Expr} {pos' pos : Pos} {fo fi fv : Ev} (hs : StS T X g) (ho : SE T X o fo) (hi : SE T X i fi) (hv : SE T X value fv) (hw : swapsWith value (some (.Subscript o i pos')) pos.line X.env = pure false := by rfl) : SS T X (.Assign [.Subscript o i pos'] value pos) (esSub g fo fi fv) := fun W tk =>
  ⟨fun pins s σ H D I ⟨ι, hp, σi, R, S, P⟩ => wpAny_Assign_Subscript (hv.go tk I R S (wp_mono (st_wp P) (fun _ _ z => z) fun _ _ _ z => DXs.one S z) fun u s1 ι1 hp1 v V1 H1 I1 R1 e1 S1 r1 rv1 q1 =>
    ho.go tk I1 R1 S1 (wp_mono (st_wp q1) (fun _ _ z => z) fun _ _ _ z => DX.up e1 (DXs.one S z)) fun ov s2 ι2 hp2 ob V2 H2 I2 R2 e2 S2 r2 rv2 q2 =>
      hi.go tk I2 R2 S2 (wp_mono (st_wp q2) (fun _ _ z => z) fun _ _ _ z => DX.up (e1.trans e2) (DXs.one S z)) fun iv s3 ι3 hp3 ix V3 H3 I3 R3 e3 S3 r3 rv3 q3 =>
        thn (hs W tk pins s3 σ H3 V2 V3 V1 ov iv u (fun H' => D.nx σ H') ι3 hp3 ob ix v I3 rv2 rv3 rv1 R3 (r2.up e3) r3 (r1.up (e2.trans e3))
          (wp_mono (st_wp q3) (fun _ h4 z ι' H' R' e' => z ι' H' σ R' (((e1.trans e2).trans e3).trans e') (S3.up e')) fun _ _ _ z => DX.up ((e1.trans e2).trans e3) (DXs.one S z))) fun _ s4 ⟨H4, I4, q4⟩ => ⟨σ, H4, I4, q4⟩) hw⟩
def ivSet (o i v : IV) (h : IHeap) : Res IV := match o with
  | .ref r => (match h.get r with
    | some (.lst xs) => (match i with
      | .int k => (match ixI xs.length k with
        | some j => .ok .non (h.put r (.lst (xs.set j v)))
        | none => .bad)
      | _ => .bad)
    | some (.dct t kvs) => cond (kvalid t i && Nat.blt kvs.length sizeLine) (.ok .non (h.put r (.dct t (dput i v kvs)))) .bad
    | _ => .bad)
  | _ => .bad
theorem dn_stable {P : Program} {w : World} {a : Addr} {xs : List (NestedKey × Addr × L2.V)} : ∀ h1 h2 : Heap, DnP P w a xs h1 → (∀ o, h1.get? a = some o → h2.get? a = some o) → DnP P w a xs h2 := fun h1 h2 ⟨ws, o, es, ep, nw, hl, hs, ho, r⟩ k => ⟨ws, o, es, ep, nw, hl, hs, k o ho, r⟩
theorem dn_obj {P : Program} {w : World} {H' : Hp} {h' : Heap} {a : Addr} {xs : List (NestedKey × Addr × L2.V)} {ws : List (NestedKey × Addr × Value)} (D : h'.DictOfH (nestedKind P w) a ws) (nw : Paired NW xs ws) (hl : xs.length ≤ sizeLine) (hs : (a == sysModules) = false) : ObjOk P w H' h' a (DnO P w a xs) := by
  obtain ⟨o, es, ep, ho, hx, hd, he, his, hn⟩ := D
  exact ⟨⟨ws, o, es, ep, nw, hl, hs, ho, hx, hd, he, hn⟩, ⟨o, ho⟩, dn_stable⟩
theorem paired_len {α β : Type} {G : α → β → Prop} {as : List α} {bs : List β} (h : Paired G as bs) : as.length = bs.length := Paired.length h
theorem drepl_length (k v : IV) : ∀ kvs, (drepl k v kvs).length = kvs.length
  | [] => rfl
  | (k', u) :: r => by unfold drepl; rw [List.length_cons, drepl_length k v r, List.length_cons]
theorem dput_length (k v : IV) (kvs : List (IV × IV)) : (dput k v kvs).length ≤ kvs.length + 1 := by
  unfold dput
  cases dhas k kvs
  · show (kvs ++ [(k, v)]).length ≤ _; simp
  · show (drepl k v kvs).length ≤ _; rw [drepl_length]; omega
/-- a dict of nested keys, written -/
theorem dn_put {kvs : List (IV × IV)} {xs : List (NestedKey × Addr × L2.V)} {ws : List (NestedKey × Addr × Value)} {k v : IV} {kk : NestedKey} {b : Addr} {V : L2.V} {u : Value} (hk : nk 8 k = some kk) (rk : RV T ι H k (.ref b)) (rv : RV T ι H v V) (ru : RelV V u) (h2 : Paired (RN T ι H) kvs xs) (h3 : Paired NW xs ws) :
    ∃ xs', Paired (RN T ι H) (dput k v kvs) xs' ∧ Paired NW xs' (storedH ws kk b u) := by
  have f := rn_find hk h2 h3
  unfold dput
  rw [dhas_find]
  cases q : dfind k kvs with
  | none =>
    rw [storedH_new (f.2 q)]
    exact ⟨xs ++ [(kk, b, V)], paired_snoc ⟨hk, rk, rv⟩ h2, paired_snoc ⟨rfl, rfl, ru⟩ h3⟩
  | some w =>
    obtain ⟨b', V', u', hV', _⟩ := f.1 w q
    rw [storedH_old hV']
    exact ⟨_, rn_repl hk rv h2, nw_repl ru h3⟩
theorem Rel.dct {i : Nat} {t : Bool} {kvs : List (IV × IV)} {V : L2.V} (R : Rel T ι hp H) (hi : hp.get i = some (.dct t kvs)) (r : RV T ι H (.ref i) V) : ∃ a u, V = .ref a ∧ ι[i]? = some a ∧ H a = some u ∧ ORd T ι H t kvs u a := by
  obtain ⟨a, rfl, h1, u, h2, h3⟩ := R.at hi r
  exact ⟨a, u, rfl, h1, h2, h3⟩
theorem dct_wr {t : Bool} {kvs : List (IV × IV)} {u w : HO} {a : Addr} (o : ORd T ι H t kvs u a) (h : H a = some u) : Ext ι H ι (upd H a w) := by
  cases t with
  | false => obtain ⟨ks, rfl, _⟩ := o; exact Ext.wr h (fun _ z => nomatch z) fun _ _ z => nomatch z
  | true => obtain ⟨ks, rfl, _⟩ := o; exact Ext.wr h (fun _ z => nomatch z) fun _ _ z => nomatch z
theorem dset_ok {a : Addr} {i : Nat} {t : Bool} {kvs : List (IV × IV)} {x v : IV} {V VV : L2.V} {u uv : Value} {E : Value → Shared → Prop} {Qf : Unit → Shared → Prop} (B : Bd T X p d) (I : Inv X pins σ H s) (R : Rel T ι hp H) (hi : hp.get i = some (.dct t kvs)) (ha : ι[i]? = some a) {uo : HO} (hH : H a = some uo) (o : ORd T ι H t kvs uo a) (r : RV T ι H x V) (ru : RelV V u) (rv : RV T ι H v VV) (ruv : RelV VV uv) (hv : kvalid t x = true) (hl : kvs.length < sizeLine)
    (h : ∀ s' H', Inv X pins σ H' s' → Rel T ι (hp.put i (.dct t (dput x v kvs))) H' → Ext ι H ι H' → Qf () s') : wpAny (model X.prog X.w) X.A (setItem (.ref a) u uv) Qf E s := by
  have hu := B.hu
  cases t with
  | false =>
    obtain ⟨ks, rfl, h2⟩ := o
    obtain ⟨kk, rfl⟩ := kvalid_k hv
    have hV : V = kV kk := by cases kk <;> cases r <;> rfl
    subst hV
    have ew : Ext ι H ι (upd H a (.dK (putK ks kk VV))) := Ext.wr hH (fun _ z => nomatch z) fun _ _ z => nomatch z
    refine d_setItem (H' := upd H a (.dK (putK ks kk VV))) (by omega) I (.inl ⟨ks, kk, hH, rfl, by rw [← paired_len h2]; exact hl, rfl⟩) ru ruv fun s' I' => h s' _ I' ?_ ew
    exact R.put hi rfl ha ew rfl ⟨_, upd_same, _, rfl, Paired.mapP (rk_put rv h2) fun _ _ q => ⟨q.1, q.2.up ew⟩⟩
  | true =>
    have D := dat_of B I (.inl hH) o
    obtain ⟨xs0, rfl, _⟩ := o
    obtain ⟨xs, ws, hm, h2, h3, hl', hs⟩ := D
    obtain ⟨⟨ys, rfl⟩, kk, hk⟩ := kvalid_t hv
    cases r with
    | @tup _ _ b ht rt =>
      cases ru
      have rk := RV.tup ht rt
      have hkey := nk_key I B.K rk hk
      have room : (nestedKind X.prog X.w).room X.A.in1 := by show X.A.in1.units + 8 < cLine; show X.A.units + 1 + 8 < cLine; omega
      obtain ⟨xs', g1, g2⟩ := dn_put hk rk rv ruv h2 h3
      have hlen : xs'.length ≤ sizeLine := by rw [← paired_len g1]; have := dput_length (.tup ys) v kvs; omega
      have ew : Ext ι H ι (upd H a (DnO T.P T.w a xs')) := Ext.wr hH (fun _ z => nomatch z) fun _ _ z => nomatch z
      refine wpAny_setItem_heap (hsz := by rw [← paired_len h3]; exact hl') room hkey hm fun h' dd' hs' => h _ (upd H a (DnO T.P T.w a xs')) ?_ ?_ ew
      · obtain ⟨q, _, _, hq, _⟩ := id dd'
        rw [← B.hP, ← B.hw]
        exact d_write I (by rw [hH]; exact True.intro) hs' ⟨q, hq⟩ (dn_obj dd' g2 hlen hs)
      · exact R.put hi rfl ha ew rfl ⟨_, upd_same, xs', rfl, Paired.mapP g1 fun _ _ q => ⟨q.1, q.2.1.up ew, q.2.2.up ew⟩⟩
theorem st_set (B : Bd T X p d) : StS T X ivSet := by
  intro W tk pins s σ H o i v ov iv u Qh ι hp oi ii vi I ro ri rv R roi rii rvi P
  unfold ivSet at P
  split at P
  · rename_i r
    split at P
    · rename_i xs hx
      split at P
      · rename_i k
        split at P
        · rename_i j hj
          obtain ⟨a, vs, rfl, ha, hH, r1⟩ := R.lst hx roi
          cases rii
          have ew : Ext ι H ι (upd H a (.lst (vs.set j v))) := Ext.wr hH (fun _ z => nomatch z) fun _ _ z => nomatch z
          refine L2.set_list pins s σ H _ _ _ ov iv u _ I ro ri rv ⟨a, vs, _, j, rfl, rfl, hH, by rw [← ixI_eq, ← r1.length]; exact hj, P ι _ ?_ ew⟩
          exact R.put hx rfl ha ew rfl ⟨_, upd_same, (r1.set rvi j).up ew⟩
        · exact P.elim
      · exact P.elim
    · rename_i t kvs hx
      cases hv : (kvalid t ii && Nat.blt kvs.length sizeLine) with
      | false => rw [hv] at P; exact P.elim
      | true =>
        rw [hv] at P
        rw [Bool.and_eq_true_iff] at hv
        obtain ⟨a, uo, rfl, ha, hH, od⟩ := R.dct hx roi
        cases ro
        exact dset_ok B I R hx ha hH od rii ri rvi rv hv.1 (Nat.le_of_ble_eq_true hv.2) fun s' H' I' R' e' => ⟨H', I', P ι H' R' e'⟩
    · exact P.elim
  · exact P.elim

/-! ### x += e, ints -/
def ivAddI (x y : IV) (h : IHeap) : Res IV := match x, y with
  | .int i, .int j => .ok (.int (i + j)) h
  | _, _ => .bad
def esAug (i : Nat) (f : Ev) : EvS := fun σ h => match σ[i]? with
  | some (some x) => (f σ h).st σ fun y h1 => (ivAddI x y h1).st σ fun z h2 => .nx (σ.set i (some z)) h2
  | _ => .bad
theorem ss_aug {x : Str} {e : Expr} {pos' pos : Pos} {f : Ev} (i : Nat) (hN : X.N.Nodup) (he : SE T X e f) (hi : X.N[i]? = some x := by rfl) (hx : Loc X.env.scope x := by first | exact Or.inl rfl | exact Or.inr rfl)
    (hf : X.fn x = true ∨ X.env.scope.names.lookup x = some .local := by first | exact .inl rfl | exact .inr rfl | assumption) : SS T X (.AugAssign (.Name x pos') .Add e pos) (esAug i f) := fun W tk =>
  (L2.ps_aug hN hi hx (he W tk) L2.ip_add hf).imp fun D σ H ⟨ι, hp, σi, R, S, P⟩ => by
    unfold esAug at P
    split at P
    · rename_i xi hxi
      obtain ⟨v, hv, rv⟩ := S.get i xi hxi
      refine ⟨v, hv, ι, hp, σi, R, S, wp_mono (st_wp P) (fun y h1 q ι1 H1 V1 R1 e1 r1 => ?_) fun _ _ _ z => DXs.one S z⟩
      unfold ivAddI at q
      split at q
      · cases rv; cases r1
        exact ⟨_, _, rfl, rfl, q ι1 H1 _ R1 e1 ((S.up e1).set (.int _) i)⟩
      · exact q.elim
    · exact P.elim

/-! ### methods of lists -/
def lsPop (x : IV) (is : List IV) (h : IHeap) : Res IV := match x with
  | .ref i => (match h.get i with
    | some (.lst xs) => (match is with
      | [.int k] => (match ixI xs.length k with
        | some j => (match xs[j]? with
          | some y => cond (decide (-(2 ^ 63) ≤ k) && decide (k < 2 ^ 63)) (.ok y (h.put i (.lst (xs.eraseIdx j)))) .bad
          | none => .bad)
        | none => .bad)
      | _ => .bad)
    | _ => .bad)
  | _ => .bad
theorem RVs.erase : ∀ {xs : List IV} {us : List L2.V} (n : Nat), RVs T ι H xs us → RVs T ι H (xs.eraseIdx n) (us.eraseIdx n)
  | _, _, _, .nil => .nil
  | _, _, 0, .cons _ t => t
  | _, _, n + 1, .cons r t => .cons r (RVs.erase n t)
theorem ms_pop : MtS T X "list.pop" lsPop := by
  intro W tk pins s σ H x xs v us Q ι hp xi is I rx rv R rxi ris P
  unfold lsPop at P
  split at P
  · split at P
    · rename_i i ys hy
      split at P
      · rename_i k
        split at P
        · rename_i j hj
          split at P
          · rename_i y hyj
            cases hb : (decide (-(2 ^ 63) ≤ k) && decide (k < 2 ^ 63)) with
            | false => rw [hb] at P; exact P.elim
            | true =>
              rw [hb] at P
              rw [Bool.and_eq_true_iff] at hb
              obtain ⟨a, vs, rfl, ha, hH, r1⟩ := R.lst hy rxi
              obtain ⟨w, rfl, rw'⟩ := ris.one
              cases rw'
              obtain ⟨z, hz, rz⟩ := r1.get hyj
              have ew : Ext ι H ι (upd H a (.lst (vs.eraseIdx j))) := Ext.wr hH (fun _ z => nomatch z) fun _ _ z => nomatch z
              rw [ixI_eq] at hj
              have h1 := (ixN_seq hj).1
              refine L2.mt_popAt pins s σ H _ _ v us Q I rx rv ⟨a, vs, k, j, z, rfl, rfl, hH, of_decide_eq_true hb.1, of_decide_eq_true hb.2, by rw [← r1.length]; exact h1, hz, P ι _ z ?_ ew (rz.up ew)⟩
              exact R.put hy rfl ha ew rfl ⟨_, upd_same, (r1.erase j).up ew⟩
          · exact P.elim
        · exact P.elim
      · exact P.elim
    · exact P.elim
  · exact P.elim
def lsInsert (x : IV) (is : List IV) (h : IHeap) : Res IV := match x with
  | .ref i => (match h.get i with
    | some (.lst xs) => (match is with
      | [.int k, y] => cond (decide (0 ≤ k) && decide (k < 2 ^ 63) && Nat.blt xs.length sizeLine) (.ok .non (h.put i (.lst (xs.take k.toNat ++ [y] ++ xs.drop k.toNat)))) .bad
      | _ => .bad)
    | _ => .bad)
  | _ => .bad
theorem ms_insert : MtS T X "list.insert" lsInsert := by
  intro W tk pins s σ H x xs v us Q ι hp xi is I rx rv R rxi ris P
  unfold lsInsert at P
  split at P
  · split at P
    · rename_i i ys hy
      split at P
      · rename_i k y
        cases hb : (decide (0 ≤ k) && decide (k < 2 ^ 63) && Nat.blt ys.length sizeLine) with
        | false => rw [hb] at P; exact P.elim
        | true =>
          rw [hb] at P
          rw [Bool.and_eq_true_iff, Bool.and_eq_true_iff] at hb
          obtain ⟨a, vs, rfl, ha, hH, r1⟩ := R.lst hy rxi
          obtain ⟨w, z, rfl, rw', rz⟩ := ris.two
          cases rw'
          have ew : Ext ι H ι (upd H a (.lst (vs.take k.toNat ++ [z] ++ vs.drop k.toNat))) := Ext.wr hH (fun _ z => nomatch z) fun _ _ z => nomatch z
          refine L2.mt_insert pins s σ H _ _ v us Q I rx rv ⟨a, vs, k, z, rfl, rfl, hH, by rw [← r1.length]; exact Nat.le_of_ble_eq_true hb.2, of_decide_eq_true hb.1.1, of_decide_eq_true hb.1.2, P ι _ _ ?_ ew .non⟩
          exact R.put hy rfl ha ew rfl ⟨_, upd_same, (((r1.take _).append (.cons rz .nil)).append (r1.drop _)).up ew⟩
      · exact P.elim
    · exact P.elim
  · exact P.elim
/-- NAMES.index(x), a tuple of texts of the module -/
def strIdx (z : Str) : Nat → List Str → Option Nat
  | _, [] => none
  | n, y :: r => cond (streq y z) (some n) (strIdx z (n + 1) r)
theorem strIdx_ok {z : Str} : ∀ {ys : List Str} {n j : Nat}, strIdx z n ys = some j → ∃ i, j = n + i ∧ ys[i]? = some z ∧ ∀ m, m < i → ys[m]? ≠ some z
  | [], n, j, h => by cases h
  | y :: ys, n, j, h => by
    have h : cond (streq y z) (some n) (strIdx z (n + 1) ys) = some j := h
    rw [streq_d] at h
    by_cases e : y = z
    · rw [decide_eq_true e] at h
      cases h
      exact ⟨0, rfl, by rw [e]; rfl, fun m hm => absurd hm (Nat.not_lt_zero _)⟩
    · rw [decide_eq_false e] at h
      obtain ⟨i, rfl, h1, h2⟩ := strIdx_ok h
      refine ⟨i + 1, by omega, h1, fun m hm => ?_⟩
      cases m with
      | zero => intro q; exact e (Option.some.inj q)
      | succ m => exact h2 m (by omega)
def evKI (ys : List Str) (fa : EvA) : Ev := fun σ h => (fa σ h).bind fun xs h1 => match xs with
  | [.str z] => (match strIdx z 0 ys with
    | some j => .ok (.int (j : Nat)) h1
    | none => .bad)
  | _ => .bad
theorem se_kidx {o e : Expr} {es : List Expr} {apos cpos : Pos} {fa : EvA} {a : Addr} (ys : List Str) (B : Bd T X p d) (ho : PE X o (L2.tC (.ref a))) (hk : ∃ ob, T.K.lookup a = some ob ∧ ob.cls = .type "tuple" ∧ ob.dict = none) (hq : ∀ H, SqT T.K H a (ys.map V.str)) (ha : SA T X (e :: es) fa)
    (pa : PlainAttrs "tuple") (slot : Slot "tuple" "index" "tuple.index") (hty : typeOf (.builtin "tuple.index") = pure (.type "method_descriptor")) (hbase : attributeBase o "index" X.env (eval o X.env) = eval o X.env := by rfl)
    (hfew : Few X cpos (e :: es) := by rfl) (hline : OneLine apos cpos := by rfl) (hs : Arg1 X e es := by rfl) (hplain : NoStar X cpos es := by rfl) :
    SE T X (.Call (.Attribute o "index" apos) (e :: es) [] cpos) (evKI ys fa) := fun W tk =>
  ⟨fun pins s σ H Q I ⟨ι, hp, σi, R, S, P⟩ => wpAny_Call_method_late hbase hfew hline rfl (thn (ho.run pins s σ H (fun V H' => V = .ref a ∧ H' = H) I ⟨rfl, rfl⟩) fun v s1 ⟨V1, H1, I1, rv1, e1, e2⟩ => by
    subst e1 e2
    obtain ⟨h1, h2⟩ := tyV_is (T := "tuple") I1 rv1 (.inr (.inl ⟨rfl, B.K ▸ hk⟩) : tyV X.K "tuple" (.ref a) H1)
    refine ⟨"tuple", "tuple.index", pa, slot, hty, h1, h2, ?_⟩
    have hA := ha.go (pos := cpos) tk I1 R S (wp_bind P) (Qf := fun us s2 => wpAny (model X.prog X.w) X.A (call (.builtin "tuple.index") (v :: us)) (EP X pins σ Q) X.xe s2)
      fun us s2 ι2 hp2 xs Vs H2 I2 R2 e2 S2 r2 rv2 q2 => by
        split at q2
        · rename_i z
          split at q2
          · rename_i j hj
            obtain ⟨i, hji, h3, h4⟩ := strIdx_ok hj
            obtain ⟨w, rfl, rw'⟩ := r2.one
            cases rw'
            rw [Nat.zero_add] at hji
            subst hji
            exact L2.mt_tup_index pins s2 σ H2 _ _ v us Q I2 rv1 rv2 ⟨_, ys, z, j, rfl, rfl, B.K ▸ hq H2, h3, h4, DV.val (DV.up e2 q2) R2 (.int _)⟩
          · exact q2.elim
        · exact q2.elim
    rw [hs] at hA ⊢
    exact Calls.callWith_builtin (by show (false || (backTo cpos (starEach es X.env)).any (·.1)) = false; rw [hplain]; rfl) (Calls.evalArgs_plain hA))⟩
end
end SV
set_option maxHeartbeats 3999999
namespace SV
open PySem PySem.Spec
open PyProof.Rows L2

/-! ### the rows of a dict's object -/
structure RowsOk (od : Obj) (es : Array DictEntry) (ep : Nat) (rows : List (L2.V × L2.V)) : Prop where
  x : od.ExactDict
  d : od.data = .dict es ep
  n : es.size = rows.length
  at_ : ∀ i (hi : i < es.size), ∃ r, rows[i]? = some r ∧ RelV r.1 es[i].key ∧ RelV r.2 es[i].val
section
variable {T : Tab} {X : Cx} {p : Pg} {d : Nat} {W : WX} {pins : List (Addr × Obj)} {s : Shared} {σ : Sl} {σi : ISt} {ι : List Addr} {hp : IHeap} {H : Hp} {Q : VK}
abbrev RR (T : Tab) (ι : List Addr) (H : Hp) : (IV × IV) → (L2.V × L2.V) → Prop := fun kv r => RV T ι H kv.1 r.1 ∧ RV T ι H kv.2 r.2
theorem key_rv (k : Key) : RV T ι H (keyIV k) (kV k) := by cases k <;> constructor
theorem rows_k : ∀ {kvs : List (IV × IV)} {ks : List (Key × L2.V)}, Paired (fun (kv : IV × IV) (q : Key × L2.V) => kv.1 = keyIV q.1 ∧ RV T ι H kv.2 q.2) kvs ks → Paired (RR T ι H) kvs (ks.map fun q => (kV q.1, q.2))
  | _, _, .nil => .nil
  | _, _, .cons ⟨e, r⟩ t => .cons ⟨e ▸ key_rv _, r⟩ (rows_k t)
theorem rows_n : ∀ {kvs : List (IV × IV)} {xs : List (NestedKey × Addr × L2.V)}, Paired (RN T ι H) kvs xs → Paired (RR T ι H) kvs (xs.map fun q => (V.ref q.2.1, q.2.2))
  | _, _, .nil => .nil
  | _, _, .cons ⟨e, r1, r2⟩ t => .cons ⟨r1, r2⟩ (rows_n t)
/-- the rows of what stands there -/
theorem drows (B : Bd T X p d) (I : Inv X pins σ H s) {u : HO} {a : Addr} {t : Bool} {kvs : List (IV × IV)} (h : Rd H a u) (o : ORd T ι H t kvs u a) : ∃ od es ep rows, s.heap.get? a = some od ∧ (a == sysModules) = false ∧ RowsOk od es ep rows ∧ Paired (RR T ι H) kvs rows ∧ kvs.length ≤ sizeLine := by
  have D := dat_of B I h o
  cases t with
  | false =>
    obtain ⟨ks, h1, h2⟩ := D
    obtain ⟨z, hd, vs, rel, dd⟩ := dk_rd I.hok h1
    obtain ⟨es, ep, ⟨od, ho, hx, hdd⟩, hn, hat⟩ := dd.raw
    have hl : ks.length = vs.length := Paired.length rel
    refine ⟨od, es, ep, ks.map fun q => (kV q.1, q.2), ho, hd, ⟨hx, hdd, by rw [List.length_map, hn, hl], fun i hi => ?_⟩, rows_k h2, by rw [paired_len h2]; exact z⟩
    have hi' : i < ks.length := by rw [hl, ← hn]; exact hi
    obtain ⟨u', hu, ru⟩ := kv_get rel (show ks[i]? = some (ks[i].1, ks[i].2) from List.getElem?_eq_getElem hi')
    obtain ⟨e1, e2⟩ := hat i hi _ _ hu
    refine ⟨(kV ks[i].1, ks[i].2), by rw [List.getElem?_map, List.getElem?_eq_getElem hi']; rfl, relV_key (show keyIs _ _ = true from e1), ?_⟩
    rw [e2]; exact ru
  | true =>
    obtain ⟨xs, ws, hm, h2, h3, hl, hs⟩ := D
    obtain ⟨es, ep, ⟨od, ho, hx, hdd⟩, hn, hat⟩ := hm.raw
    have hl' : xs.length = ws.length := paired_len h3
    refine ⟨od, es, ep, xs.map fun q => (V.ref q.2.1, q.2.2), ho, hs, ⟨hx, hdd, by rw [List.length_map, hn, hl'], fun i hi => ?_⟩, rows_n h2, by rw [paired_len h2]; exact hl⟩
    have hi' : i < xs.length := by omega
    obtain ⟨y, hy, e1, e2, _⟩ := hat i hi
    obtain ⟨y', hy', q1, q2, q3⟩ := paired_get h3 (List.getElem?_eq_getElem hi')
    rw [hy] at hy'
    cases hy'
    refine ⟨(V.ref xs[i].2.1, xs[i].2.2), by rw [List.getElem?_map, List.getElem?_eq_getElem hi']; rfl, ?_, ?_⟩
    · rw [e1, q2]; rfl
    · rw [e2]; exact q3
theorem paired_at {α β : Type} {G : α → β → Prop} : ∀ {as : List α} {bs : List β} {i : Nat} {a : α}, Paired G as bs → as[i]? = some a → ∃ b, bs[i]? = some b ∧ G a b := fun h e => paired_get h e
/-! ### the library's walks as turns -/
/-- the record of an iterator that keeps no pair of its own -/
def Plain (it : Addr) (h : Heap) : Prop := ∃ (o : Obj) (n : String) (vs : Array Value), h.get? it = some o ∧ o.cls = .type n ∧ o.data = .fields vs ∧
  (["enumerate", "zip", "dict_itemiterator", "dict_reverseitemiterator", "odict_iterator"] ++ ["itertools.zip_longest", "itertools.pairwise"]).contains n = false
/-- items that are there already; the walk's own record is the one at it -/
def ItW (go : Nat → Hp → Prop) (yl : Nat → Hp → L2.V → Prop) (st : Nat → Hp → Prop) : It := ⟨go, fun i H x H' => H' = H ∧ yl i H x, st⟩
/-- what a walk is known by while it stands at i -/
def WalkAt (P : Program) (w : World) (it : Addr) (tn : Nat → Heap → Prop) (go : Nat → Hp → Prop) (yl : Nat → Hp → L2.V → Prop) (st : Nat → Hp → Prop) (s : Shared) (H : Hp) (i : Nat) : Prop :=
  ∃ (fp : List Addr) (n : Nat) (Pv : Nat → Value → Prop) (St : Nat → Heap → Prop), (∀ A : Around, A.handled = none → Walks P w A it fp [it] n Pv St) ∧ St i s.heap ∧ (∀ h, St (i + 1) h → tn (i + 1) h) ∧
    (go i H → i < n ∧ ∀ v, Pv i v → ∃ x, RelV x v ∧ yl i H x) ∧ (st i H → i = n)
theorem turnW {P : Program} {w : World} {K : PySem.W.Frag} {tg : Expr} {it : Addr} {tn : Nat → Heap → Prop} {go : Nat → Hp → Prop} {yl : Nat → Hp → L2.V → Prop} {st : Nat → Hp → Prop}
    (pl : ∀ i h, tn i h → Plain it h) (kp : ∀ i h h', tn i h → (∀ o, h.get? it = some o → h'.get? it = some o) → tn i h') (sf : ∀ (A : Around) i s Q E, tn i s.heap → Q (.ref it) s → wpAny (model P w) A (pyIter (.ref it)) Q E s)
    (wk : ∀ X : Cx, X.prog = P → X.w = w → X.K = K → ∀ pins s σ H i, Inv X pins σ H s → tn i s.heap → (go i H ∨ st i H) → WalkAt P w it tn go yl st s H i) : Turn P w K tg (ItW go yl st) [it] it tn := by
  have me : ∀ {b : Addr}, b ∈ [it] → b = it := fun h => List.mem_singleton.mp h
  have ot : ∀ {b : Addr}, b ≠ it → b ∉ [it] := fun h q => h (me q)
  refine ⟨List.mem_singleton_self it, fun i h t b hb => ?_, fun i h h' t k => kp i h h' t (k it (List.mem_singleton_self it)), fun X hP hw hK hc i pins s σ H E I hf t g => ?_, fun X hP hw hK hc i pins s σ H E I hf t g => ?_, sf⟩
  · obtain ⟨o, n, vs, h1, _, h3, _⟩ := pl i h t
    exact ⟨o, (me hb) ▸ h1, fun v q => by rw [h3] at q; cases q⟩
  · obtain ⟨fp, n, Pv, St, W, a1, a2, a3, _⟩ := wk X hP hw hK pins s σ H i I t (.inl g)
    obtain ⟨lt, val⟩ := a3 g
    subst hP hw
    refine (W X.A (I.ok.hd hc)).item i s _ E lt a1 fun v h' tk hv hs hk => ?_
    obtain ⟨x, rx, yx⟩ := val v hv
    obtain ⟨o, nm, vs, h1, h2, h3, h4⟩ := pl _ _ (a2 _ hs)
    exact ⟨v, rfl, go_of (s := ⟨h', s.gens, s.drawn, tk, s.os⟩) h1 h2 h3 h4 ⟨x, H, I.turnedL hk hf, rx, ⟨rfl, yx⟩, a2 _ hs, fun b hb => (hf b hb).1⟩⟩
  · obtain ⟨fp, n, Pv, St, W, a1, _, _, a4⟩ := wk X hP hw hK pins s σ H i I t (.inr g)
    have := a4 g
    subst this hP hw
    exact (W X.A (I.ok.hd hc)).done s _ E a1 fun h' tk hk => ⟨rfl, I.turnedL hk hf⟩
/-- rows that are made for each turn: a new tuple; own: the walk's own records, wr: those that it writes -/
def ItT (go : Nat → Hp → Prop) (row : Nat → Hp → List L2.V → Prop) (st : Nat → Hp → Prop) : It := ⟨go, fun i H v H' => ∃ A xs, v = .ref A ∧ H A = none ∧ H' = upd H A (.tup xs) ∧ row i H xs, st⟩
def RowsAt (P : Program) (w : World) (it : Addr) (wr : List Addr) (tn : Nat → Heap → Prop) (go : Nat → Hp → Prop) (row : Nat → Hp → List L2.V → Prop) (st : Nat → Hp → Prop) (s : Shared) (H : Hp) (i : Nat) : Prop :=
  ∃ (fp : List Addr) (n : Nat) (Pt : Nat → Array Value → Prop) (St : Nat → Heap → Prop) (Mid : Nat → Addr → Heap → Prop), (∀ A : Around, A.handled = none → WalksT P w A it fp wr n Pt St Mid) ∧ St i s.heap ∧ (∀ h, St (i + 1) h → tn (i + 1) h) ∧
    (go i H → i < n ∧ ∀ vals, Pt i vals → ∃ xs, Vals xs vals.toList ∧ xs.length ≤ sizeLine ∧ row i H xs) ∧ (st i H → i = n)
theorem turnT {P : Program} {w : World} {K : PySem.W.Frag} {elts : List Expr} {kk : Nat} {tpos : Pos} {it : Addr} {own wr : List Addr} {tn : Nat → Heap → Prop} {go : Nat → Hp → Prop} {row : Nat → Hp → List L2.V → Prop} {st : Nat → Hp → Prop}
    (hm : it ∈ own) (hs : ∀ b ∈ wr, b ∈ own) (ob : ∀ i h, tn i h → ∀ b ∈ own, ∃ o, h.get? b = some o ∧ ∀ v, o.data ≠ .cell v) (kp : ∀ i h h', tn i h → (∀ b ∈ own, ∀ o, h.get? b = some o → h'.get? b = some o) → tn i h')
    (sf : ∀ (A : Around) i s Q E, tn i s.heap → Q (.ref it) s → wpAny (model P w) A (pyIter (.ref it)) Q E s)
    (wk : ∀ X : Cx, X.prog = P → X.w = w → X.K = K → ∀ pins s σ H i, Inv X pins σ H s → tn i s.heap → (go i H ∨ st i H) → RowsAt P w it wr tn go row st s H i) : Turn P w K (.Tuple elts kk tpos) (ItT go row st) own it tn := by
  refine ⟨hm, ob, kp, fun X hP hw hK hc i pins s σ H E I hf t g => ?_, fun X hP hw hK hc i pins s σ H E I hf t g => ?_, sf⟩
  · obtain ⟨fp, n, Pt, St, Mid, W, a1, a2, a3, _⟩ := wk X hP hw hK pins s σ H i I t (.inl g)
    obtain ⟨lt, val⟩ := a3 g
    subst hP hw
    have Wx := W X.A (I.ok.hd hc)
    refine Wx.item i s _ E lt a1 fun A vals h' tk hv hA hT hM hk => ⟨.ref A, rfl, ?_⟩
    obtain ⟨xs, rx, lx, yx⟩ := val vals hv
    refine Wx.go elts kk tpos i A ⟨h', s.gens, s.drawn, tk, s.os⟩ _ E hM fun h'' hs'' hk' => ?_
    have top : ∀ o, h'.get? A = some o → h''.get? A = some o := fun o e => hk' A o (Wx.apart i A h' hM) e
    have new : ObjOk X.prog X.w (upd H A (.tup xs)) h'' A (.tup xs) := ⟨lx, vals.toList, rx, by
      obtain ⟨o, e, r⟩ := hT
      rw [Array.toArray_toList]
      exact ⟨o, top o e, r⟩⟩
    refine ⟨.ref A, upd H A (.tup xs), I.turnedNew (ch := own) (fun b o hb e => hk' b o (fun q => hb (hs b q)) (hk b o (fun q => hb (hs b q)) e)) hf hA new, rfl, ⟨A, xs, rfl, I.hok.fresh hA, rfl, yx⟩, a2 _ hs'', fun b hb => ?_⟩
    obtain ⟨o, e, _⟩ := ob i _ t b hb
    have : b ≠ A := fun q => Nat.lt_irrefl _ (Nat.lt_of_lt_of_le (Heap.lt_size e) (q ▸ hA))
    show upd H A (.tup xs) b = none
    rw [upd_ne this]
    exact (hf b hb).1
  · obtain ⟨fp, n, Pt, St, Mid, W, a1, _, _, a4⟩ := wk X hP hw hK pins s σ H i I t (.inr g)
    have := a4 g
    subst this hP hw
    exact (W X.A (I.ok.hd hc)).done s _ E a1 fun h' tk hk => ⟨rfl, I.turnedL (fun b o hb e => hk b o (fun q => hb (hs b q)) e) hf⟩

/-! ### the walks of a locked dict -/
section
variable {P : Program} {w : World} {K : PySem.W.Frag} {tg : Expr} {a : Addr} {od : Obj} {u : HO} {es : Array DictEntry} {ep : Nat} {rows : List (L2.V × L2.V)}
def ItD (d : Addr) (od : Obj) (u : HO) (rows : List (L2.V × L2.V)) (f : L2.V × L2.V → L2.V) : It :=
  ItW (fun i H => H d = some (.frz od u) ∧ i < rows.length) (fun i _ x => ∃ r, rows[i]? = some r ∧ x = f r) (fun i H => H d = some (.frz od u) ∧ i = rows.length)
def ItP (d : Addr) (od : Obj) (u : HO) (rows : List (L2.V × L2.V)) : It :=
  ItT (fun i H => H d = some (.frz od u) ∧ i < rows.length) (fun i _ xs => ∃ r, rows[i]? = some r ∧ xs = [r.1, r.2]) (fun i H => H d = some (.frz od u) ∧ i = rows.length)
theorem frz_get (I : Inv X pins σ H s) {a : Addr} {od : Obj} {u : HO} (h : H a = some (.frz od u)) : s.heap.get? a = some od := (show ObjOk X.prog X.w H s.heap a (.frz od u) from I.hok a _ h).1
/-- the dict that is walked is no record of the walk -/
theorem dct_ne {h : Heap} {it : Addr} {o : Obj} {vs : Array Value} (hr : RowsOk od es ep rows) (hd : h.get? a = some od) (hi : h.get? it = some o) (ho : o.data = .fields vs) : a ≠ it := fun q => by
  subst q
  rw [hd] at hi
  cases hi
  rw [hr.d] at ho
  cases ho
theorem turn_dk (it : Addr) (hr : RowsOk od es ep rows) : Turn P w K tg (ItD a od u rows (·.1)) [it] it (fun i h => h.IsKeyIter it a i es.size ep) :=
  turnW (fun i h ⟨o, h1, h2, h3⟩ => ⟨o, _, _, h1, h2, h3, by decide⟩) (fun i h h' ⟨o, h1, h2⟩ k => ⟨o, k o h1, h2⟩) (fun A i s Q E t q => wpAny_pyIter_keyiter t q) fun X hP hw hK pins s σ H i I t g => by
    have hd : H a = some (.frz od u) := g.elim (·.1) (·.1)
    have raw : s.heap.DictRaw a es ep := ⟨od, frz_get I hd, hr.x, hr.d⟩
    have ne : a ≠ it := let ⟨_, h1, _, h3⟩ := t; dct_ne hr (frz_get I hd) h1 h3
    refine ⟨_, es.size, _, _, fun A hh => Walks.rawKeys hh it a ne es ep, ⟨t, raw⟩, fun h q => q.1, fun g => ⟨hr.n ▸ g.2, fun v ⟨hi, e⟩ => ?_⟩, fun g => g.2.trans hr.n.symm⟩
    obtain ⟨r, h1, h2, _⟩ := hr.at_ i hi
    exact ⟨r.1, e ▸ h2, r, h1, rfl⟩
theorem turn_dv (it : Addr) (hr : RowsOk od es ep rows) : Turn P w K tg (ItD a od u rows (·.2)) [it] it (fun i h => h.IsValIter it a i es.size ep) :=
  turnW (fun i h ⟨o, h1, h2, h3⟩ => ⟨o, _, _, h1, h2, h3, by decide⟩) (fun i h h' ⟨o, h1, h2⟩ k => ⟨o, k o h1, h2⟩) (fun A i s Q E t q => wpAny_pyIter_valiter t q) fun X hP hw hK pins s σ H i I t g => by
    have hd : H a = some (.frz od u) := g.elim (·.1) (·.1)
    have raw : s.heap.DictRaw a es ep := ⟨od, frz_get I hd, hr.x, hr.d⟩
    have ne : a ≠ it := let ⟨_, h1, _, h3⟩ := t; dct_ne hr (frz_get I hd) h1 h3
    refine ⟨_, es.size, _, _, fun A hh => Walks.rawValues hh it a ne es ep, ⟨t, raw⟩, fun h q => q.1, fun g => ⟨hr.n ▸ g.2, fun v ⟨hi, e⟩ => ?_⟩, fun g => g.2.trans hr.n.symm⟩
    obtain ⟨r, h1, _, h2⟩ := hr.at_ i hi
    exact ⟨r.2, e ▸ h2, r, h1, rfl⟩
theorem turn_dp {elts : List Expr} {kk : Nat} {tpos : Pos} (it : Addr) (hr : RowsOk od es ep rows) : Turn P w K (.Tuple elts kk tpos) (ItP a od u rows) [it] it (fun i h => ∃ ok ov, IsItemIter h it a i es.size ep ok ov) :=
  turnT (List.mem_singleton_self it) (fun b hb => hb) (fun i h t b hb => by obtain ⟨ok, ov, t⟩ := t; rw [List.mem_singleton.mp hb]; exact ⟨_, t, fun v q => by cases q⟩) (fun i h h' ⟨ok, ov, t⟩ k => ⟨ok, ov, k it (List.mem_singleton_self it) _ t⟩)
    (fun A i s Q E ⟨ok, ov, t⟩ q => wpAny_pyIter_itemiter t q) fun X hP hw hK pins s σ H i I t g => by
    have hd : H a = some (.frz od u) := g.elim (·.1) (·.1)
    have raw : s.heap.DictRaw a es ep := ⟨od, frz_get I hd, hr.x, hr.d⟩
    have ne : a ≠ it := let ⟨_, _, h1⟩ := t; dct_ne hr (frz_get I hd) h1 rfl
    refine ⟨_, es.size, _, _, _, fun A hh => WalksT.rawItems hh it a ne es ep, ⟨t, raw⟩, fun h q => q.1, fun g => ⟨hr.n ▸ g.2, fun vals ⟨hi, e⟩ => ?_⟩, fun g => g.2.trans hr.n.symm⟩
    obtain ⟨r, h1, h2, h3⟩ := hr.at_ i hi
    subst e
    exact ⟨[r.1, r.2], .cons h2 (.cons h3 .nil), by show 2 ≤ sizeLine; decide, r, h1, rfl⟩
end
/-! ### as sources -/
def nxRow (f : IV × IV → IV) (kvs : List (IV × IV)) : Nx := fun i _ => match kvs[i]? with
  | some kv => .yld (f kv)
  | none => cond (Nat.beq kvs.length i) .stop .bad
theorem src_dk {ι : List Addr} {H : Hp} {a : Addr} {od : Obj} {u : HO} {kvs : List (IV × IV)} {rows : List (L2.V × L2.V)} {f : IV × IV → IV} {g : L2.V × L2.V → L2.V} (hd : H a = some (.frz od u)) (r : Paired (RR T ι H) kvs rows) (hf : ∀ kv r, RR T ι H kv r → RV T ι H (f kv) (g r)) : SrcOk T ι H (nxRow f kvs) (ItD a od u rows g) := by
  refine ⟨fun i ι1 hp H1 x e R q => ?_, fun i ι1 hp H1 e R q => ?_⟩
  · unfold nxRow at q
    split at q
    · rename_i kv hkv
      cases q
      obtain ⟨rr, hr, rv⟩ := paired_at r hkv
      refine ⟨⟨e.frz _ _ _ hd, (List.getElem?_eq_some_iff.mp hr).1⟩, fun V H' y' => ?_⟩
      obtain ⟨rfl, r', hr', rfl⟩ := y'
      rw [hr] at hr'
      cases hr'
      exact ⟨R, .refl, (hf kv rr rv).up e⟩
    · cases hb : Nat.beq kvs.length i <;> rw [hb] at q <;> cases q
  · unfold nxRow at q
    split at q
    · cases q
    · cases hb : Nat.beq kvs.length i with
      | false => rw [hb] at q; cases q
      | true => exact ⟨e.frz _ _ _ hd, by rw [← paired_len r]; exact (Nat.eq_of_beq_eq_true hb).symm⟩
theorem src_dp {ι : List Addr} {H : Hp} {a : Addr} {od : Obj} {u : HO} {kvs : List (IV × IV)} {rows : List (L2.V × L2.V)} (hd : H a = some (.frz od u)) (r : Paired (RR T ι H) kvs rows) : SrcOk T ι H (nxRow (fun kv => .tup [kv.1, kv.2]) kvs) (ItP a od u rows) := by
  refine ⟨fun i ι1 hp H1 x e R q => ?_, fun i ι1 hp H1 e R q => ?_⟩
  · unfold nxRow at q
    split at q
    · rename_i kv hkv
      cases q
      obtain ⟨rr, hr, rv⟩ := paired_at r hkv
      refine ⟨⟨e.frz _ _ _ hd, (List.getElem?_eq_some_iff.mp hr).1⟩, fun V H' y' => ?_⟩
      obtain ⟨A, xs, rfl, hA, rfl, r', hr', rfl⟩ := y'
      rw [hr] at hr'
      cases hr'
      obtain ⟨R', e', rv'⟩ := R.newTup hA (.cons (rv.1.up e) (.cons (rv.2.up e) .nil))
      exact ⟨R', e', rv'⟩
    · cases hb : Nat.beq kvs.length i <;> rw [hb] at q <;> cases q
  · unfold nxRow at q
    split at q
    · cases q
    · cases hb : Nat.beq kvs.length i with
      | false => rw [hb] at q; cases q
      | true => exact ⟨e.frz _ _ _ hd, by rw [← paired_len r]; exact (Nat.eq_of_beq_eq_true hb).symm⟩
/-- the frozen dict that a value is -/
def fdcOf (x : IV) (h : IHeap) : Option (List (IV × IV)) := match x with
  | .ref i => (match h.get i with
    | some (.fdc _ kvs) => some kvs
    | _ => none)
  | _ => none
theorem fdc_at (B : Bd T X p d) (I : Inv X pins σ H s) (R : Rel T ι hp H) {x : IV} {V : L2.V} {kvs : List (IV × IV)} (r : RV T ι H x V) (e : fdcOf x hp = some kvs) : ∃ a od u es ep rows, V = .ref a ∧ H a = some (.frz od u) ∧ (a == sysModules) = false ∧ s.heap.get? a = some od ∧ RowsOk od es ep rows ∧ Paired (RR T ι H) kvs rows := by
  unfold fdcOf at e
  split at e
  · split at e
    · rename_i i t kvs' hi
      cases e
      obtain ⟨a, rfl, h1, od, u, h2, h3⟩ := R.at hi r
      obtain ⟨od', es, ep, rows, ho, hs, hr, hp', _⟩ := drows B I (.inr ⟨od, h2⟩) h3
      have := frz_get I h2
      rw [this] at ho
      cases ho
      exact ⟨a, od, u, es, ep, rows, rfl, h2, hs, this, hr, hp'⟩
    · cases e
  · cases e
def eiDct (f : IV × IV → IV) (fe : Ev) : EvI := fun σ h => (fe σ h).bind fun v h1 => match fdcOf v h1 with
  | some kvs => .ok (nxRow f kvs) h1
  | none => .bad
variable {tg e : Expr} {fe : Ev} {apos cpos : Pos}
/-- a tuple, a list, a locked dict -/
def eiAny (fe : Ev) : EvI := fun σ h => (fe σ h).bind fun v h1 => match v with
  | .tup xs => .ok (nxSeq xs) h1
  | .ref i => (match h1.get i with
    | some (.lst _) => .ok (nxLst i) h1
    | some (.frz _) => .ok (nxLst i) h1
    | some (.fdc _ kvs) => .ok (nxRow (·.1) kvs) h1
    | _ => .bad)
  | _ => .bad
theorem si_any (B : Bd T X p d) (h : SE T X e fe) : SI T X tg e (eiAny fe) := fun W tk => ⟨fun pins s σ H R I ⟨ι, hp, σi, R0, S, P⟩ =>
  h.go tk I R0 S (wp_bind P) fun v s1 ι1 hp1 x V1 H1 I1 R1 e1 S1 r1 rv1 q1 => by
    split at q1
    · cases r1 with
      | tup h1 r1 =>
        cases rv1
        exact start_tup I1 (B.K ▸ h1) (q1 ι1 H1 _ R1 e1 (B.K ▸ src_tup h1 r1))
    · rename_i i
      have go : ∀ ys, hp1.items i = some ys → (∀ ι' H' J, Rel T ι' hp1 H' → Ext ι H ι' H' → SrcOk T ι' H' (nxLst i) J → R J H') → wpAny (model X.prog X.w) X.A (pyIter v) (PIE X pins σ tg R) X.xe s1 := fun ys hy q1 => by
        obtain ⟨a, vs, rfl, ha, h1, r2⟩ := R1.seq hy r1
        cases rv1
        exact start_lst I1 (B.K ▸ h1) (q1 ι1 H1 _ R1 e1 (B.K ▸ src_lst ha))
      split at q1
      · rename_i ys hy
        exact go ys (by unfold IHeap.items; rw [hy]) q1
      · rename_i ys hy
        exact go ys (by unfold IHeap.items; rw [hy]) q1
      · rename_i t kvs hk
        obtain ⟨a, od, u, es, ep, rows, rfl, hd, hs, hg, hr, hpr⟩ := fdc_at B I1 R1 r1 (kvs := kvs) (by unfold fdcOf; simp only [hk])
        cases rv1
        exact wpAny_pyIter_dict_raw hs ⟨od, hg, hr.x, hr.d⟩ (pi_one (tk := s1.toks) I1 _ (turn_dk _ hr) ⟨_, Heap.get?_push_size _ rfl, rfl, rfl⟩ (q1 ι1 H1 _ R1 e1 (src_dk hd hpr fun kv r z => z.1)))
      · exact q1.elim
    · exact q1.elim⟩
/-- d.items(), locked, two names -/
theorem si_items {elts : List Expr} {kk : Nat} {tpos : Pos} (B : Bd T X p d) (he : SE T X e fe) (hbase : attributeBase e "items" X.env (eval e X.env) = eval e X.env := by rfl) (hline : (apos.endLine == cpos.line) = true := by rfl) :
    SI T X (.Tuple elts kk tpos) (.Call (.Attribute e "items" apos) [] [] cpos) (eiDct (fun kv => .tup [kv.1, kv.2]) fe) := fun W tk => ⟨fun pins s σ H R I ⟨ι, hp, σi, R0, S, P⟩ => by
  refine wpAny_Call_method (T := "dict") (id := "dict.items") hbase rfl hline F.plainAttrs_dict F.slot_dict_items F.type_dict_items (he.go tk I R0 S (wp_bind P) fun v s1 ι1 hp1 x V1 H1 I1 R1 e1 S1 r1 rv1 q1 => ?_)
  split at q1
  · rename_i kvs hk
    obtain ⟨a, od, u, es, ep, rows, rfl, hd, hs, hg, hr, hpr⟩ := fdc_at B I1 R1 r1 hk
    cases rv1
    have hm : s1.heap.DictRaw a es ep := ⟨od, hg, hr.x, hr.d⟩
    refine ⟨hm.typeIs, fun b q => by cases q; exact ⟨od, hg, hr.x.2.1⟩, ?_⟩
    have I2 : Inv X pins σ H1 { s1 with heap := s1.heap.push { cls := .type "dict_items", data := .fields #[.ref a] } } := I1.kept (t' := s1.toks) fun b ob q => Heap.get?_push_of_some _ q
    have fin : wpAny (model X.prog X.w) X.A (pyIter (.ref s1.heap.objs.size)) (PIE X pins σ (.Tuple elts kk tpos) R) X.xe { s1 with heap := s1.heap.push { cls := .type "dict_items", data := .fields #[.ref a] } } := by
      exact wpAny_pyIter_items_raw (d := a) ⟨_, Heap.get?_push_size _ rfl, rfl, rfl⟩ (hm.at fun o e => Heap.get?_push_of_some _ e) (pi_one (tk := s1.toks) I2 _ (turn_dp _ hr) ⟨.none, .none, Heap.get?_push_size _ rfl⟩ (q1 ι1 H1 _ R1 e1 (src_dp hd hpr)))
    show wpAny _ _ (callWith cpos (.builtin "dict.items") [.ref a] [] []) _ X.xe s1
    exact method_meetsIn F.slot_dict_items F.entry_dict_items rfl (PySem.evalArgs_none ⟨rfl, hm.typeIs, F.args_dict_items_1 _, _, meets_dict_items_raw a hs, ⟨es, ep, hm⟩, fin⟩)
  · exact q1.elim⟩
theorem si_values (B : Bd T X p d) (he : SE T X e fe) (hbase : attributeBase e "values" X.env (eval e X.env) = eval e X.env := by rfl) (hline : (apos.endLine == cpos.line) = true := by rfl) :
    SI T X tg (.Call (.Attribute e "values" apos) [] [] cpos) (eiDct (·.2) fe) := fun W tk => ⟨fun pins s σ H R I ⟨ι, hp, σi, R0, S, P⟩ => by
  refine wpAny_Call_method (T := "dict") (id := "dict.values") hbase rfl hline F.plainAttrs_dict F.slot_dict_values F.type_dict_values (he.go tk I R0 S (wp_bind P) fun v s1 ι1 hp1 x V1 H1 I1 R1 e1 S1 r1 rv1 q1 => ?_)
  split at q1
  · rename_i kvs hk
    obtain ⟨a, od, u, es, ep, rows, rfl, hd, hs, hg, hr, hpr⟩ := fdc_at B I1 R1 r1 hk
    cases rv1
    have hm : s1.heap.DictRaw a es ep := ⟨od, hg, hr.x, hr.d⟩
    refine ⟨hm.typeIs, fun b q => by cases q; exact ⟨od, hg, hr.x.2.1⟩, ?_⟩
    have I2 : Inv X pins σ H1 { s1 with heap := s1.heap.push { cls := .type "dict_values", data := .fields #[.ref a] } } := I1.kept (t' := s1.toks) fun b ob q => Heap.get?_push_of_some _ q
    have fin : wpAny (model X.prog X.w) X.A (pyIter (.ref s1.heap.objs.size)) (PIE X pins σ tg R) X.xe { s1 with heap := s1.heap.push { cls := .type "dict_values", data := .fields #[.ref a] } } := by
      exact wpAny_pyIter_values_raw (d := a) ⟨_, Heap.get?_push_size _ rfl, rfl, rfl⟩ (hm.at fun o e => Heap.get?_push_of_some _ e) (pi_one (tk := s1.toks) I2 _ (turn_dv _ hr) ⟨_, Heap.get?_push_size _ rfl, rfl, rfl⟩ (q1 ι1 H1 _ R1 e1 (src_dk hd hpr fun kv r z => z.2)))
    show wpAny _ _ (callWith cpos (.builtin "dict.values") [.ref a] [] []) _ X.xe s1
    exact method_meetsIn F.slot_dict_values F.entry_dict_values rfl (PySem.evalArgs_none ⟨rfl, hm.typeIs, F.args_dict_values_1 _, _, meets_dict_values_raw a hs, ⟨es, ep, hm⟩, fin⟩)
  · exact q1.elim⟩
end
end SV
set_option maxHeartbeats 3999999
namespace SV
open PySem PySem.Spec
open PyProof.Rows L2

/-- enumerate(v) with no second argument: the record that is laid behind the new iterator o -/
def enRec (n : Addr) : Obj := { cls := .type "enumerate", data := .fields #[.none, .bool false, .ref n, rawInt 0, .none, .none] }
theorem new_enum1 {v : Value} {o : Obj} {Hb : Heap → Prop} (B : Begins v o Hb) : Meets (Builtin.«enumerate.__new__» ⟨[.type "enumerate", v], []⟩) (fun _ R s => Hb s.heap ∧ R (.ok (.ret (.ref (s.heap.push o).objs.size))) ⟨(s.heap.push o).push (enRec s.heap.objs.size), s.gens, s.drawn, s.toks, s.os⟩) :=
  .of_wp fun prog w A R ⟨hp, gs, dr, tk, os⟩ ⟨hb, out⟩ => by
    have sub := sub_enumerate
    have begin_ : ∀ {A' E Q}, Q (Value.ref hp.objs.size) (⟨hp.push o, gs, dr, tk, os⟩ : Shared) → wpAny (model prog w) A' (pyIter v) Q E ⟨hp, gs, dr, tk, os⟩ := fun q => B.iter prog w _ _ _ _ hb q
    wp_walk using begin_
    refine wpAny_stack_any fun _ => wpAny_pure ?_
    split
    case h_1 c _ _ _ _ _ => cases (c == Value.type "enumerate") <;> (wp_walk using begin_; exact ⟨_, rfl, out⟩)
    all_goals (wp_walk using begin_; exact ⟨_, rfl, out⟩)
theorem call_enum1 {prog : Program} {w : World} {A : Around} {E : Value → Shared → Prop} {s : Shared} {v : Value} {o : Obj} {Hb : Heap → Prop} {Q : Value → Shared → Prop} (B : Begins v o Hb) (hb : Hb s.heap)
    (q : ∀ h', IsEnum h' (s.heap.objs.size + 1) s.heap.objs.size 0 .none → h'.get? s.heap.objs.size = some o → (∀ b u, s.heap.get? b = some u → h'.get? b = some u) → Q (.ref (s.heap.objs.size + 1)) ⟨h', s.gens, s.drawn, s.toks, s.os⟩) :
    wpAny (model prog w) A (call (.type "enumerate") [v]) Q E s := by
  have sz : (s.heap.push o).objs.size = s.heap.objs.size + 1 := Heap.size_push ..
  have rec_ : IsEnum ((s.heap.push o).push (enRec s.heap.objs.size)) (s.heap.objs.size + 1) s.heap.objs.size 0 .none := by
    have e := Heap.get?_push_size (s.heap.push o) (o := enRec s.heap.objs.size) rfl
    rwa [sz] at e
  refine callType_new F.called_enumerate (by decide) (F.typeCall_enumerate_1 _) (F.newCall_enumerate_1 _) (fun ob => F.args_object_init_2 ob _) F.entry_enumerate_new (new_enum1 B) ⟨hb, ?_⟩
  refine ⟨⟨enRec s.heap.objs.size, sz ▸ rec_, rfl⟩, ?_⟩
  rw [sz]
  exact q _ rec_ (Heap.get?_push_of_some _ (Heap.get?_push_size _ B.free)) fun b u e => Heap.get?_push_of_some _ (Heap.get?_push_of_some _ e)

/-! ### what is drawn from -/
structure Kd (P : Program) (w : World) (K : PySem.W.Frag) (N it : Addr) (go : List L2.V → Hp → Prop) (tn : Nat → Heap → Prop) : Prop where
  obj : ∀ i h, tn i h → ∃ o, h.get? it = some o ∧ ∀ v, o.data ≠ .cell v
  keep : ∀ i h h', tn i h → (∀ o, h.get? it = some o → h'.get? it = some o) → tn i h'
  inj : ∀ (X : Cx), X.prog = P → X.w = w → X.K = K → ∀ pins s σ H xs ys, Inv X pins σ H s → go xs H → go ys H → xs = ys
  dr : ∀ (X : Cx), X.prog = P → X.w = w → X.K = K → ∀ pins s σ H xs, Inv X pins σ H s → go xs H → ∃ (fps : List Addr) (Pv : Nat → Value → Prop) (St : Nat → Heap → Prop), (∀ b ∈ fps, b < N) ∧ (∀ A : Around, A.handled = none → Draws P w A it (it :: fps) xs.length Pv St) ∧
    (∀ i v, Pv i v → ∃ x, xs[i]? = some x ∧ RelV x v) ∧ (∀ i, tn i s.heap → St i s.heap) ∧ (∀ i h, St i h → tn i h)
section
variable {P : Program} {w : World} {K : PySem.W.Frag}
theorem kd_list {N it l : Addr} (hl : l < N) (hN : N ≤ it) : Kd P w K N it (fun xs H => SqL K H l xs) (fun i h => h.IsListIter it l i) where
  obj := fun i h st => by obtain ⟨o, ho, hc, hd⟩ := st; exact ⟨o, ho, fun v q => by rw [hd] at q; cases q⟩
  keep := fun i h h' st k => st.at fun o q => k o q
  inj := fun X hP hw hK pins s σ H xs ys I h1 h2 => by subst hK; exact I.list_inj h1 h2
  dr := fun X hP hw hK pins s σ H xs I h => by
    subst hP hw hK
    obtain ⟨its, rv, p, hz⟩ := I.list h
    have hln := rv.length
    refine ⟨[l], fun i v => its.toArray[i]? = some v, fun i h => h.IsListIter it l i ∧ h.IsList l its.toArray, by simpa using hl, fun A hh => ?_, fun i v q => ?_, fun i st => ⟨st, p.isList⟩, fun i h st => st.1⟩
    · rw [hln]
      have := Draws.list (prog := X.prog) (w := X.w) hh it l (Nat.ne_of_lt (Nat.lt_of_lt_of_le hl hN)) its.toArray
      rwa [List.size_toArray] at this
    · have q : its[i]? = some v := by simpa using q
      obtain ⟨x, hx, r⟩ : ∃ x, xs[i]? = some x ∧ RelV x v := by
        have hi : i < xs.length := by rw [hln]; exact (List.getElem?_eq_some_iff.mp q).1
        obtain ⟨u, hu, ru⟩ := rv.get (List.getElem?_eq_getElem hi)
        rw [q] at hu
        cases hu
        exact ⟨_, List.getElem?_eq_getElem hi, ru⟩
      exact ⟨x, hx, r⟩
theorem kd_tup {N it l : Addr} (hl : l < N) (hN : N ≤ it) : Kd P w K N it (fun xs H => SqT K H l xs) (fun i h => h.IsTupleIter it l i) where
  obj := fun i h st => by obtain ⟨o, ho, hc, hd⟩ := st; exact ⟨o, ho, fun v q => by rw [hd] at q; cases q⟩
  keep := fun i h h' st k => let ⟨o, ho, r⟩ := st; ⟨o, k o ho, r⟩
  inj := fun X hP hw hK pins s σ H xs ys I h1 h2 => by subst hK; exact I.tuple_inj h1 h2
  dr := fun X hP hw hK pins s σ H xs I h => by
    subst hP hw hK
    obtain ⟨its, rv, p, hz⟩ := I.tuple h
    have hln := rv.length
    refine ⟨[l], fun i v => its.toArray[i]? = some v, fun i h => h.IsTupleIter it l i ∧ h.IsTuple l its.toArray, by simpa using hl, fun A hh => ?_, fun i v q => ?_, fun i st => ⟨st, p⟩, fun i h st => st.1⟩
    · rw [hln]
      have := Draws.tuple (prog := X.prog) (w := X.w) hh it l (Nat.ne_of_lt (Nat.lt_of_lt_of_le hl hN)) its.toArray
      rwa [List.size_toArray] at this
    · have q : its[i]? = some v := by simpa using q
      have hi : i < xs.length := by rw [hln]; exact (List.getElem?_eq_some_iff.mp q).1
      obtain ⟨u, hu, ru⟩ := rv.get (List.getElem?_eq_getElem hi)
      rw [q] at hu
      cases hu
      exact ⟨_, List.getElem?_eq_getElem hi, ru⟩
def chrs (x : Str) : List L2.V := x.cps.toList.map fun c => .str ⟨#[c]⟩
theorem kd_txt {N it : Addr} {x : Str} {t : Tok} : Kd P w K N it (fun xs H => xs = chrs x) (fun i h => h.IsStrIter it (strIterType x) x t i) where
  obj := fun i h st => by obtain ⟨o, ho, hc, hd⟩ := st; exact ⟨o, ho, fun v q => by rw [hd] at q; cases q⟩
  keep := fun i h h' st k => let ⟨o, ho, r⟩ := st; ⟨o, k o ho, r⟩
  inj := fun X hP hw hK pins s σ H xs ys I h1 h2 => h1.trans h2.symm
  dr := fun X hP hw hK pins s σ H xs I h => by
    subst hP hw hK h
    refine ⟨[], fun i v => ∃ c u, x.cps[i]? = some c ∧ v = .str ⟨#[c]⟩ u, fun i h => h.IsStrIter it (strIterType x) x t i, (fun b hb => absurd hb List.not_mem_nil), fun A hh => ?_, fun i v q => ?_, fun i st => st, fun i h st => st⟩
    · have := Draws.text (prog := X.prog) (w := X.w) hh it x t
      have e : (chrs x).length = x.cps.size := by unfold chrs; simp
      rw [e]
      exact this
    · obtain ⟨c, u, hc, rfl⟩ := q
      exact ⟨.str ⟨#[c]⟩, by unfold chrs; rw [List.getElem?_map]; simp [hc], ⟨u, rfl⟩⟩

/-- two records apart from what is drawn from -/
theorem notAt {N e it : Addr} {fps : List Addr} (lo : ∀ b ∈ fps, b < N) (he : N ≤ e) (ne : e ≠ it) : e ∉ it :: fps := fun h => (List.mem_cons.mp h).elim ne fun q => Nat.lt_irrefl _ (Nat.lt_of_lt_of_le (lo e q) he)
theorem mem2 {a b c : Addr} (h : c ∈ [a, b]) : c = a ∨ c = b := by simpa using h
def ItG (go : List L2.V → Hp → Prop) : It :=
  ItT (fun i H => ∃ xs x, go xs H ∧ xs[i]? = some x) (fun i H r => ∃ x, r = [.int (i : Nat), x] ∧ ∀ xs, go xs H → xs[i]? = some x) (fun i H => ∃ xs, go xs H ∧ xs.length = i)
theorem turn_enumG {elts : List Expr} {kk : Nat} {tpos : Pos} {N it e : Addr} {go : List L2.V → Hp → Prop} {tn : Nat → Heap → Prop} (D : Kd P w K N it go tn) (he : N ≤ e) (hne : e ≠ it) :
    Turn P w K (.Tuple elts kk tpos) (ItG go) [e, it] e (fun i h => (∃ old, IsEnum h e it ((i : Nat) : Int) old) ∧ tn i h) :=
  turnT (wr := [e, it]) (by simp) (fun b hb => hb) (fun i h t b hb => by
      obtain ⟨⟨old, h1⟩, h2⟩ := t
      rcases mem2 hb with q | q
      · exact ⟨_, q ▸ h1, fun v z => by cases z⟩
      · exact q ▸ D.obj i h h2)
    (fun i h h' ⟨⟨old, h1⟩, h2⟩ k => ⟨⟨old, k e (by simp) _ h1⟩, D.keep i h h' h2 (k it (by simp))⟩) (fun A i s Q E ⟨⟨_, h1⟩, _⟩ q => wpAny_pyIter_enum h1 q)
    fun X hP hw hK pins s σ H i I ⟨h1, h2⟩ g => by
      obtain ⟨xs, hq⟩ : ∃ xs, go xs H := g.elim (fun ⟨xs, _, q, _⟩ => ⟨xs, q⟩) fun ⟨xs, q, _⟩ => ⟨xs, q⟩
      obtain ⟨fps, Pv, St, lo, dr, val, up, dn⟩ := D.dr X hP hw hK pins s σ H xs I hq
      have same : ∀ ys, go ys H → xs = ys := fun ys hy => D.inj X hP hw hK pins s σ H xs ys I hq hy
      refine ⟨e :: it :: fps, xs.length, _, _, _, fun A hh => WalksT.enumerateD (dr A.in1 hh) e hne (notAt lo he hne) (by simp), ⟨h1, up i h2⟩, fun h q => ⟨q.1, dn _ _ q.2⟩, fun ⟨ys, x, hy, hx⟩ => ?_, fun ⟨ys, hy, hl⟩ => by rw [same ys hy]; exact hl.symm⟩
      rw [← same ys hy] at hx
      refine ⟨(List.getElem?_eq_some_iff.mp hx).1, fun vals ⟨t, u, hu, ev⟩ => ?_⟩
      obtain ⟨y, h3, ru⟩ := val i u hu
      subst ev
      exact ⟨[.int (i : Nat), y], .cons ⟨t, rfl⟩ (.cons ru .nil), by show 2 ≤ sizeLine; decide, y, rfl, fun zs hz => by rw [← same zs hz]; exact h3⟩
def ItZ (go1 go2 : List L2.V → Hp → Prop) : It :=
  ItT (fun i H => ∃ xs ys x y, go1 xs H ∧ go2 ys H ∧ xs[i]? = some x ∧ ys[i]? = some y) (fun i H r => ∃ x y, r = [x, y] ∧ (∀ xs, go1 xs H → xs[i]? = some x) ∧ ∀ ys, go2 ys H → ys[i]? = some y)
    (fun i H => ∃ xs ys, go1 xs H ∧ go2 ys H ∧ i = min xs.length ys.length)
theorem turn_zipG {elts : List Expr} {kk : Nat} {tpos : Pos} {N : Addr} {go1 go2 : List L2.V → Hp → Prop} {tn1 tn2 : Nat → Heap → Prop} (D1 : Kd P w K N N go1 tn1) (D2 : Kd P w K N (N + 1) go2 tn2) :
    Turn P w K (.Tuple elts kk tpos) (ItZ go1 go2) [N + 4, N + 2, N + 3, N, N + 1] (N + 4) (fun i h => IsZip h (N + 4) (N + 2) (N + 3) .none ∧ IsTupOf2 h (N + 2) (.ref N) (.ref (N + 1)) ∧ (∃ x y, IsTupOf2 h (N + 3) x y) ∧ tn1 i h ∧ tn2 i h) :=
  turnT (wr := [N + 4, N + 3, N, N + 1]) (by simp) (fun b hb => by simp at hb ⊢; rcases hb with q | q | q | q <;> simp [q]) (fun i h t b hb => by
      obtain ⟨z, ti, ⟨x, y, to⟩, s1, s2⟩ := t
      simp only [List.mem_cons, or_false, List.not_mem_nil] at hb
      rcases hb with q | q | q | q | q
      · exact ⟨_, q ▸ z, fun v z => by cases z⟩
      · exact ⟨_, q ▸ ti, fun v z => by cases z⟩
      · exact ⟨_, q ▸ to, fun v z => by cases z⟩
      · exact q ▸ D1.obj i h s1
      · exact q ▸ D2.obj i h s2)
    (fun i h h' ⟨z, ti, ⟨x, y, to⟩, s1, s2⟩ k => ⟨k _ (by simp) _ z, k _ (by simp) _ ti, ⟨x, y, k _ (by simp) _ to⟩, D1.keep i h h' s1 (k N (by simp)), D2.keep i h h' s2 (k (N + 1) (by simp))⟩)
    (fun A i s Q E t q => wpAny_pyIter_zip t.1 q)
    fun X hP hw hK pins s σ H i I ⟨z, ti, to, t1, t2⟩ g => by
      obtain ⟨xs, ys, hx, hy⟩ : ∃ xs ys, go1 xs H ∧ go2 ys H := g.elim (fun ⟨xs, ys, _, _, a, b, _⟩ => ⟨xs, ys, a, b⟩) fun ⟨xs, ys, a, b, _⟩ => ⟨xs, ys, a, b⟩
      obtain ⟨f1, P1, S1, lo1, dr1, val1, up1, dn1⟩ := D1.dr X hP hw hK pins s σ H xs I hx
      obtain ⟨f2, P2, S2, lo2, dr2, val2, up2, dn2⟩ := D2.dr X hP hw hK pins s σ H ys I hy
      have e1 : ∀ zs, go1 zs H → xs = zs := fun zs hz => D1.inj X hP hw hK pins s σ H xs zs I hx hz
      have e2 : ∀ zs, go2 zs H → ys = zs := fun zs hz => D2.inj X hP hw hK pins s σ H ys zs I hy hz
      refine ⟨_, min xs.length ys.length, _, _, _, fun A hh => WalksT.zipD2 (zip_sep2 lo1 lo2) (dr1 A.in1 hh) (dr2 A.in1 hh), ⟨z, ti, to, up1 i t1, up2 i t2⟩, fun h ⟨a, b, c, d, e⟩ => ⟨a, b, c, dn1 _ _ d, dn2 _ _ e⟩, fun ⟨us, vs, x, y, hu, hv, gx, gy⟩ => ?_, fun ⟨us, vs, hu, hv, hl⟩ => by rw [e1 us hu, e2 vs hv]; exact hl⟩
      rw [← e1 us hu] at gx
      rw [← e2 vs hv] at gy
      have l1 := (List.getElem?_eq_some_iff.mp gx).1
      have l2 := (List.getElem?_eq_some_iff.mp gy).1
      refine ⟨by omega, fun vals ⟨a, b, ha, hb, ev⟩ => ?_⟩
      obtain ⟨p1, q1, r1⟩ := val1 i a ha
      obtain ⟨p2, q2, r2⟩ := val2 i b hb
      subst ev
      exact ⟨[p1, p2], .cons r1 (.cons r2 .nil), by show 2 ≤ sizeLine; decide, p1, p2, rfl, fun zs hz => by rw [← e1 zs hz]; exact q1, fun zs hz => by rw [← e2 zs hz]; exact q2⟩
end

/-! ### as sources -/
/-- the items that a value is walked by -/
def walkOf (x : IV) (h : IHeap) : Option (List IV) := match x with
  | .tup xs => some xs
  | .ref i => h.items i
  | .str z => some (z.cps.toList.map fun c => .str ⟨#[c]⟩)
  | _ => none
section
variable {T : Tab} {X : Cx} {p : Pg} {d : Nat} {W : WX} {pins : List (Addr × Obj)} {s : Shared} {σ : Sl} {σi : ISt} {ι : List Addr} {hp : IHeap} {H : Hp} {Q : VK}
/-- how a value is drawn from, at N -/
structure Src (T : Tab) (X : Cx) (ι : List Addr) (H : Hp) (s : Shared) (x : IV) (v : Value) (N it : Addr) (go : List L2.V → Hp → Prop) (tn : Nat → Heap → Prop) (o : Obj) (Hb : Heap → Prop) : Prop where
  kd : Kd X.prog X.w X.K N it go tn
  b : Begins v o Hb
  hb : Hb s.heap
  st : ∀ h', h'.get? it = some o → tn 0 h'
  go : ∀ (ι' : List Addr) (hp' : IHeap) (H' : Hp) (xs : List IV), Ext ι H ι' H' → Rel T ι' hp' H' → walkOf x hp' = some xs → ∃ vs, go vs H' ∧ RVs T ι' H' xs vs
theorem rvs_chrs : ∀ (l : List Nat), RVs T ι H (l.map fun c => IV.str ⟨#[c]⟩) (l.map fun c => L2.V.str ⟨#[c]⟩)
  | [] => .nil
  | c :: l => .cons (.str _) (rvs_chrs l)
theorem src_of (hK : X.K = T.K) (I : Inv X pins σ H s) (R : Rel T ι hp H) {x : IV} {V : L2.V} {v : Value} {xs : List IV} (r : RV T ι H x V) (rv : RelV V v) (e : walkOf x hp = some xs) {it : Addr} (hit : s.heap.objs.size ≤ it) : ∃ go tn o Hb, Src T X ι H s x v s.heap.objs.size it go tn o Hb := by
  unfold walkOf at e
  split at e
  · rename_i ys
    cases r with
    | @tup _ vs a h1 r1 =>
      cases rv
      obtain ⟨its, ri, p, hz⟩ := I.tuple (hK ▸ h1 : SqT X.K H a vs)
      exact ⟨_, _, _, _, kd_tup p.lt hit, begins_tuple a its.toArray, p, fun h' ho => ⟨_, ho, rfl, rfl⟩, fun ι' hp' H' zs e' R' q => by cases q; exact ⟨vs, hK ▸ e'.sqT h1, r1.up e'⟩⟩
  · obtain ⟨a, vs, rfl, ha, h1, r1⟩ := R.seq e r
    cases rv
    obtain ⟨its, ri, p, hz⟩ := I.list (hK ▸ h1 : SqL X.K H a vs)
    refine ⟨_, _, _, _, kd_list p.lt hit, begins_list a its.toArray, p.isList, fun h' ho => ⟨_, ho, rfl, rfl⟩, fun ι' hp' H' zs e' R' q => ?_⟩
    obtain ⟨b, ws, eb, _, h2, r2⟩ := R'.seq q (r.up e')
    cases eb
    exact ⟨ws, hK ▸ h2, r2⟩
  · rename_i z
    cases r
    obtain ⟨t, rfl⟩ := rv
    exact ⟨_, _, _, _, kd_txt (x := z) (t := t), begins_text z t, trivial, fun h' ho => ⟨_, ho, rfl, rfl⟩, fun ι' hp' H' zs e' R' q => by cases q; exact ⟨_, rfl, rvs_chrs _⟩⟩
  · cases e
def nxEnum (x : IV) : Nx := fun i h => match walkOf x h with
  | some xs => (match xs[i]? with
    | some y => .yld (.tup [.int (i : Nat), y])
    | none => cond (Nat.beq xs.length i) .stop .bad)
  | none => .bad
def nxZip (x y : IV) : Nx := fun i h => match walkOf x h with
  | some xs => (match walkOf y h with
    | some ys => (match xs[i]? with
      | some u => (match ys[i]? with
        | some v => .yld (.tup [u, v])
        | none => cond (Nat.beq ys.length i) .stop .bad)
      | none => cond (Nat.beq xs.length i && Nat.ble i ys.length) .stop .bad)
    | none => .bad)
  | none => .bad
theorem ok_enum {x : IV} {v : Value} {N it : Addr} {go : List L2.V → Hp → Prop} {tn : Nat → Heap → Prop} {o : Obj} {Hb : Heap → Prop} (S : Src T X ι H s x v N it go tn o Hb) : SrcOk T ι H (nxEnum x) (ItG go) := by
  refine ⟨fun i ι1 hp H1 y e R q => ?_, fun i ι1 hp H1 e R q => ?_⟩
  · unfold nxEnum at q
    split at q
    · rename_i xs hw
      obtain ⟨vs, hg, r⟩ := S.go _ _ _ _ e R hw
      split at q
      · rename_i z hz
        cases q
        obtain ⟨V, hV, rV⟩ := r.get hz
        refine ⟨⟨vs, V, hg, hV⟩, fun U H' y' => ?_⟩
        obtain ⟨A, _, rfl, hA, rfl, V', rfl, hall⟩ := y'
        have := (hall vs hg).symm.trans hV
        cases this
        obtain ⟨R', e', rv'⟩ := R.newTup hA (.cons (.int (i : Nat)) (.cons rV .nil))
        exact ⟨R', e', rv'⟩
      · cases hb : Nat.beq xs.length i <;> rw [hb] at q <;> cases q
    · cases q
  · unfold nxEnum at q
    split at q
    · rename_i xs hw
      obtain ⟨vs, hg, r⟩ := S.go _ _ _ _ e R hw
      split at q
      · cases q
      · cases hb : Nat.beq xs.length i with
        | false => rw [hb] at q; cases q
        | true => exact ⟨vs, hg, by rw [← r.length]; exact Nat.eq_of_beq_eq_true hb⟩
    · cases q
theorem ok_zip {x y : IV} {v u : Value} {N it N2 it2 : Addr} {go go2 : List L2.V → Hp → Prop} {tn tn2 : Nat → Heap → Prop} {o o2 : Obj} {Hb Hb2 : Heap → Prop} {s2 : Shared} (S : Src T X ι H s x v N it go tn o Hb) (S2 : Src T X ι H s2 y u N2 it2 go2 tn2 o2 Hb2) : SrcOk T ι H (nxZip x y) (ItZ go go2) := by
  refine ⟨fun i ι1 hp H1 y e R q => ?_, fun i ι1 hp H1 e R q => ?_⟩
  · unfold nxZip at q
    split at q
    · rename_i xs hw
      obtain ⟨vs, hg, r⟩ := S.go _ _ _ _ e R hw
      split at q
      · rename_i ys hw2
        obtain ⟨vs2, hg2, r2⟩ := S2.go _ _ _ _ e R hw2
        split at q
        · rename_i a ha
          split at q
          · rename_i b hb
            cases q
            obtain ⟨V, hV, rV⟩ := r.get ha
            obtain ⟨V2, hV2, rV2⟩ := r2.get hb
            refine ⟨⟨vs, vs2, V, V2, hg, hg2, hV, hV2⟩, fun U H' y' => ?_⟩
            obtain ⟨A, _, rfl, hA, rfl, V', V2', rfl, hall, hall2⟩ := y'
            have := (hall vs hg).symm.trans hV
            cases this
            have := (hall2 vs2 hg2).symm.trans hV2
            cases this
            obtain ⟨R', e', rv'⟩ := R.newTup hA (.cons rV (.cons rV2 .nil))
            exact ⟨R', e', rv'⟩
          · cases hb : Nat.beq ys.length i <;> rw [hb] at q <;> cases q
        · cases hb : (Nat.beq xs.length i && Nat.ble i ys.length) <;> rw [hb] at q <;> cases q
      · cases q
    · cases q
  · unfold nxZip at q
    split at q
    · rename_i xs hw
      obtain ⟨vs, hg, r⟩ := S.go _ _ _ _ e R hw
      split at q
      · rename_i ys hw2
        obtain ⟨vs2, hg2, r2⟩ := S2.go _ _ _ _ e R hw2
        split at q
        · rename_i a ha
          have hla := (List.getElem?_eq_some_iff.mp ha).1
          split at q
          · cases q
          · cases hb : Nat.beq ys.length i with
            | false => rw [hb] at q; cases q
            | true =>
              have := Nat.eq_of_beq_eq_true hb
              exact ⟨vs, vs2, hg, hg2, by rw [← r.length, ← r2.length]; omega⟩
        · cases hb : (Nat.beq xs.length i && Nat.ble i ys.length) with
          | false => rw [hb] at q; cases q
          | true =>
            rw [Bool.and_eq_true_iff] at hb
            have h1 := Nat.eq_of_beq_eq_true hb.1
            have h2 := Nat.le_of_ble_eq_true hb.2
            exact ⟨vs, vs2, hg, hg2, by rw [← r.length, ← r2.length]; omega⟩
      · cases q
    · cases q
def eiEnum (f : Ev) : EvI := fun σ h => (f σ h).bind fun v h1 => match walkOf v h1 with
  | some _ => .ok (nxEnum v) h1
  | none => .bad
def eiZip (fa fb : Ev) : EvI := fun σ h => (fa σ h).bind fun v h1 => (fb σ h1).bind fun u h2 => match walkOf v h2 with
  | some _ => (match walkOf u h2 with
    | some _ => .ok (nxZip v u) h2
    | none => .bad)
  | none => .bad
theorem si_enum {e : Expr} {f : Ev} {q pos tpos : Pos} {elts : List Expr} {kk : Nat} (B : Bd T X p d) (hg : Gl X "enumerate") (hm : X.mg "enumerate" = none) (he : SE T X e f) (hs : starEach [e] X.env = (false, eval e X.env) :: starEach [] X.env := by rfl) :
    SI T X (.Tuple elts kk tpos) (.Call (.Name "enumerate" q) [e] [] pos) (eiEnum f) := fun W tk => ⟨fun pins s σ H R I ⟨ι, hp, σi, R0, S, P⟩ => by
  have ha := sa_c he sa_n hs
  refine Call_ (ld_blt I hg hm boot_enumerate (PyProof.Rows.callWith_type1 (ha.go (k := fun xs h1 => ∃ v, xs = [v] ∧ (match walkOf v h1 with
    | some _ => .ok (nxEnum v) h1
    | none => .bad : Res Nx).wp (fun nx hp' => ∀ ι' H' J, Rel T ι' hp' H' → Ext ι H ι' H' → SrcOk T ι' H' nx J → R J H') (DX T ι H W σ)) tk I R0 S ?_ fun us s1 ι1 hp1 xs Vs H1 I1 R1 e1 S1 r1 rv1 q1 => ?_) hs rfl))
  · show ((f σi hp).bind fun x h1 => ((Res.ok [] h1 : Res (List IV)).bind fun xs h2 => Res.ok (x :: xs) h2)).wp _ _
    have P := wp_bind P
    cases hf : f σi hp with
    | ok x h1 => rw [hf] at P; exact ⟨x, rfl, P⟩
    | err c fs h1 => rw [hf] at P; exact P
    | bad => rw [hf] at P; exact P
  · obtain ⟨v, rfl, q1⟩ := q1
    split at q1
    · rename_i ys hw
      obtain ⟨V, rfl, rV⟩ := r1.one
      obtain ⟨u, rfl, ru⟩ := rv1.one
      obtain ⟨go, tn, o, Hb, Z⟩ := src_of B.K I1 R1 rV ru hw (it := s1.heap.objs.size) (Nat.le_refl _)
      refine call_enum1 Z.b Z.hb fun h' hE ho hk => wpAny_pyIter_enum hE ?_
      have laid : Inv X pins σ H1 ⟨h', s1.gens, s1.drawn, s1.toks, s1.os⟩ := I1.kept hk
      refine ⟨s1.heap.objs.size + 1, [s1.heap.objs.size + 1, s1.heap.objs.size], _, _, H1, rfl, laid, turn_enumG Z.kd (Nat.le_succ _) (Nat.succ_ne_self _), ⟨⟨.none, hE⟩, Z.st h' ho⟩, fun b hb => ?_, q1 ι1 H1 _ R1 e1 (ok_enum Z)⟩
      have up : s1.heap.objs.size ≤ b := (mem2 hb).elim (fun q => q ▸ Nat.le_succ _) fun q => Nat.le_of_eq q.symm
      exact I1.fpOk up (I1.hok.fresh up)
    · exact q1.elim⟩
theorem si_zip {e e2 : Expr} {f f2 : Ev} {q pos tpos : Pos} {elts : List Expr} {kk : Nat} (B : Bd T X p d) (hg : Gl X "zip") (hm : X.mg "zip" = none) (he : SE T X e f) (he2 : SE T X e2 f2) (hs : starEach [e, e2] X.env = (false, eval e X.env) :: starEach [e2] X.env := by rfl) (hs2 : starEach [e2] X.env = (false, eval e2 X.env) :: starEach [] X.env := by rfl) (hpl : (backTo pos (starEach [e2] X.env)).any (·.1) = false := by rfl) :
    SI T X (.Tuple elts kk tpos) (.Call (.Name "zip" q) [e, e2] [] pos) (eiZip f f2) := fun W tk => ⟨fun pins s σ H R I ⟨ι, hp, σi, R0, S, P⟩ => by
  have ha := sa_c he (sa_c he2 sa_n hs2) hs
  refine Call_ (ld_blt I hg hm PyProof.Rows.boot_zip (PyProof.Rows.callWith_type1 (ha.go (k := fun xs h2 => ∃ v u, xs = [v, u] ∧ (match walkOf v h2 with
    | some _ => (match walkOf u h2 with
      | some _ => .ok (nxZip v u) h2
      | none => .bad)
    | none => .bad : Res Nx).wp (fun nx hp' => ∀ ι' H' J, Rel T ι' hp' H' → Ext ι H ι' H' → SrcOk T ι' H' nx J → R J H') (DX T ι H W σ)) tk I R0 S ?_ fun us s1 ι1 hp1 xs Vs H1 I1 R1 e1 S1 r1 rv1 q1 => ?_) hs hpl))
  · show ((f σi hp).bind fun x h1 => (((f2 σi h1).bind fun y h2 => ((Res.ok [] h2 : Res (List IV)).bind fun xs h3 => Res.ok (y :: xs) h3))).bind fun xs h2 => Res.ok (x :: xs) h2).wp _ _
    have P := wp_bind P
    cases hf : f σi hp with
    | ok x h1 =>
      rw [hf] at P
      have P := wp_bind (show ((f2 σi h1).bind fun u h2 => match walkOf x h2 with
        | some _ => (match walkOf u h2 with
          | some _ => Res.ok (nxZip x u) h2
          | none => .bad)
        | none => .bad).wp _ _ from P)
      show (((f2 σi h1).bind fun y h2 => ((Res.ok [] h2 : Res (List IV)).bind fun xs h3 => Res.ok (y :: xs) h3)).bind fun xs h2 => Res.ok (x :: xs) h2).wp _ _
      cases hf2 : f2 σi h1 with
      | ok y h2 => rw [hf2] at P; exact ⟨x, y, rfl, P⟩
      | err c fs h2 => rw [hf2] at P; exact P
      | bad => rw [hf2] at P; exact P
    | err c fs h1 => rw [hf] at P; exact P
    | bad => rw [hf] at P; exact P
  · obtain ⟨v, v2, rfl, q1⟩ := q1
    split at q1
    · rename_i ys hw
      split at q1
      · rename_i ys2 hw2
        obtain ⟨V, V2, rfl, rV, rV2⟩ := r1.two
        obtain ⟨u, u2, rfl, ru, ru2⟩ := rv1.two
        obtain ⟨go, tn, o, Hb, Z⟩ := src_of B.K I1 R1 rV ru hw (it := s1.heap.objs.size) (Nat.le_refl _)
        obtain ⟨go2, tn2, o2, Hb2, Z2⟩ := src_of B.K I1 R1 rV2 ru2 hw2 (it := s1.heap.objs.size + 1) (Nat.le_succ _)
        refine zip_begins2 Z.b Z2.b Z.hb Z2.hb fun h' hz hTI hTO h1 h2 hsz hk => wpAny_pyIter_zip hz ?_
        have laid : Inv X pins σ H1 ⟨h', s1.gens, s1.drawn, s1.toks, s1.os⟩ := I1.kept hk
        refine ⟨s1.heap.objs.size + 4, [s1.heap.objs.size + 4, s1.heap.objs.size + 2, s1.heap.objs.size + 3, s1.heap.objs.size, s1.heap.objs.size + 1], _, _, H1, rfl, laid, turn_zipG Z.kd Z2.kd, ⟨hz, hTI, ⟨_, _, hTO⟩, Z.st h' h1, Z2.st h' h2⟩, fun c hcm => ?_, q1 ι1 H1 _ R1 e1 (ok_zip Z Z2)⟩
        have up : s1.heap.objs.size ≤ c := by
          simp only [List.mem_cons, List.not_mem_nil, or_false] at hcm
          rcases hcm with q | q | q | q | q <;> rw [q]
          all_goals first | exact Nat.le_refl _ | exact Nat.le_add_right _ _
        exact I1.fpOk up (I1.hok.fresh up)
      · exact q1.elim
    · exact q1.elim⟩
end
end SV
set_option maxHeartbeats 3999999
namespace SV
open PySem PySem.Spec
open PyProof.Rows L2

section
variable {T : Tab} {X : Cx} {p : Pg} {d : Nat} {W : WX} {pins : List (Addr × Obj)} {s : Shared} {σ : Sl} {σi : ISt} {ι : List Addr} {hp : IHeap} {H : Hp} {Q : VK}
/-! ### a dict is locked while it is walked -/
theorem dct_sh {t : Bool} {kvs : List (IV × IV)} {u : HO} {a : Addr} (o : ORd T ι H t kvs u a) : (∀ xs, u ≠ .tup xs) ∧ (∀ o' v, u ≠ .frz o' v) ∧ Mut (some u) ∧ sqo u = false := by
  cases t with
  | false => obtain ⟨ks, rfl, _⟩ := o; exact ⟨(fun _ z => nomatch z), (fun _ _ z => nomatch z), trivial, rfl⟩
  | true => obtain ⟨ks, rfl, _⟩ := o; exact ⟨(fun _ z => nomatch z), (fun _ _ z => nomatch z), trivial, rfl⟩
theorem dct_code {t : Bool} {kvs : List (IV × IV)} {u : HO} {a : Addr} (o : ORd T ι H t kvs u a) (q : Str) : u ≠ LamX.CodeO a q := by
  cases t with
  | false => obtain ⟨ks, rfl, _⟩ := o; exact fun z => by unfold LamX.CodeO at z; cases z
  | true => obtain ⟨ks, rfl, _⟩ := o; exact fun z => dnO_ne z
theorem lock_rel {i : Nat} {t : Bool} {kvs : List (IV × IV)} {u : HO} {a : Addr} (R : Rel T ι hp H) (hi : hp.get i = some (.dct t kvs)) (ha : ι[i]? = some a) (hH : H a = some u) (o : ORd T ι H t kvs u a) (od : Obj) : Rel T ι (hp.put i (.fdc t kvs)) (upd H a (.frz od u)) ∧ Ext ι H ι (upd H a (.frz od u)) := by
  have e := dct_wr (w := .frz od u) o hH
  exact ⟨R.put hi rfl ha e rfl ⟨od, u, upd_same, o.up e⟩, e⟩
def unl (i : Nat) (t : Bool) (kvs : List (IV × IV)) (h : IHeap) : Option IHeap := match h.get i with
  | some (.fdc _ _) => some (h.put i (.dct t kvs))
  | _ => none
theorem unlock_rel {ι' : List Addr} {hp' h3 : IHeap} {H' : Hp} {i : Nat} {t : Bool} {kvs : List (IV × IV)} {u : HO} {a : Addr} {od : Obj} (hH : H a = some u) (o : ORd T ι H t kvs u a) (R : Rel T ι' hp' H') (ha : ι[i]? = some a) (e : Ext ι (upd H a (.frz od u)) ι' H') (hu : unl i t kvs hp' = some h3) :
    H' a = some (.frz od u) ∧ Rel T ι' h3 (upd H' a u) ∧ ExtW ι' H' ι' (upd H' a u) ∧ Ext ι H ι' (upd H' a u) := by
  obtain ⟨s1, s2, s3, s4⟩ := dct_sh o
  have hf : H' a = some (.frz od u) := e.frz a od u upd_same
  have ew : ExtW ι' H' ι' (upd H' a u) := ExtW.wr hf (fun _ z => nomatch z) fun o' v z q => by cases q; rw [s4] at z; cases z
  have e1 : Ext ι H ι' (upd H' a u) := by
    refine ⟨e.pre, fun b xs q => ?_, fun b o' v q => ?_, fun b n q => ?_⟩
    · have hb : b ≠ a := fun z => by rw [z, hH] at q; exact s1 xs (Option.some.inj q)
      rw [upd_ne hb]
      exact e.tup b xs (by rw [upd_ne hb]; exact q)
    · have hb : b ≠ a := fun z => by rw [z, hH] at q; exact s2 o' v (Option.some.inj q)
      rw [upd_ne hb]
      exact e.frz b o' v (by rw [upd_ne hb]; exact q)
    · have hb : b ≠ a := fun z => by rw [z, hH] at q; exact dct_code o n (Option.some.inj q)
      rw [upd_ne hb]
      exact e.cod b n (by rw [upd_ne hb]; exact q)
  refine ⟨hf, ?_, ew, e1⟩
  unfold unl at hu
  split at hu
  · rename_i t' kvs' hi
    cases hu
    exact R.putW hi rfl (e.at ha) ew rfl ⟨u, upd_same, o.up e1⟩
  · cases hu
def unlRS (i : Nat) (t : Bool) (kvs : List (IV × IV)) (r : RS) : RS := match r with
  | .nx σ h => (match unl i t kvs h with
    | some h' => .nx σ h'
    | none => .bad)
  | .rt v h => (match unl i t kvs h with
    | some h' => .rt v h'
    | none => .bad)
  | .bk σ h => (match unl i t kvs h with
    | some h' => .bk σ h'
    | none => .bad)
  | .ct σ h => (match unl i t kvs h with
    | some h' => .ct σ h'
    | none => .bad)
  | r => r
def esLock (fe : Ev) (body : EvS) : EvS := fun σ h => match fe σ h with
  | .ok (.ref i) _ => (match h.get i with
    | some (.dct t kvs) => unlRS i t kvs (body σ (h.put i (.fdc t kvs)))
    | _ => body σ h)
  | _ => body σ h
theorem ss_lock {st : Stmt} {body : EvS} (fe : Ev) (hb : SS T X st body) : SS T X st (esLock fe body) := fun W tk =>
  ⟨fun pins s σ H D I ⟨ι, hp, σi, R, S, P⟩ => by
    unfold esLock at P
    split at P
    · split at P
      · rename_i i _ _ _ t kvs hi
        obtain ⟨a, ha, u, hH, o⟩ := R.ob i _ hi
        obtain ⟨s1, s2, s3, s4⟩ := dct_sh o
        refine (ps_lock (hb W tk)).run pins s σ H D I ⟨a, u, hH, s3, fun od => ?_⟩
        obtain ⟨R', e'⟩ := lock_rel R hi ha hH o od
        refine ⟨ι, hp.put i (.fdc t kvs), σi, R', S.up e', ?_⟩
        revert P
        cases body σi (hp.put i (.fdc t kvs)) with
        | nx σ2 h2 =>
          intro P ι' H' σ' R2 e2 S2
          unfold unlRS at P
          simp only at P
          split at P
          · rename_i h3 hu
            obtain ⟨f1, f2, f3, f4⟩ := unlock_rel hH o R2 ha e2 hu
            exact ⟨f1, P ι' _ σ' f2 f4 (S2.upW f3)⟩
          · exact P.elim
        | rt v h2 =>
          intro P ι' H' V R2 e2 r2
          unfold unlRS at P
          simp only at P
          split at P
          · rename_i h3 hu
            obtain ⟨f1, f2, f3, f4⟩ := unlock_rel hH o R2 ha e2 hu
            exact ⟨f1, P ι' _ V f2 f4 (r2.upW f3)⟩
          · exact P.elim
        | bk σ2 h2 =>
          intro P ι' H' σ' R2 e2 S2
          unfold unlRS at P
          simp only at P
          split at P
          · rename_i h3 hu
            obtain ⟨f1, f2, f3, f4⟩ := unlock_rel hH o R2 ha e2 hu
            exact ⟨f1, P ι' _ σ' f2 f4 (S2.upW f3)⟩
          · exact P.elim
        | ct σ2 h2 =>
          intro P ι' H' σ' R2 e2 S2
          unfold unlRS at P
          simp only at P
          split at P
          · rename_i h3 hu
            obtain ⟨f1, f2, f3, f4⟩ := unlock_rel hH o R2 ha e2 hu
            exact ⟨f1, P ι' _ σ' f2 f4 (S2.upW f3)⟩
          · exact P.elim
        | er c fs σ2 h2 => exact fun P => DXs.up e' P
        | bad => exact fun P => P
      · exact (hb W tk).run pins s σ H D I ⟨ι, hp, σi, R, S, P⟩
    · exact (hb W tk).run pins s σ H D I ⟨ι, hp, σi, R, S, P⟩⟩
def unlRes (i : Nat) (t : Bool) (kvs : List (IV × IV)) (r : Res IV) : Res IV := match r with
  | .ok v h => (match unl i t kvs h with
    | some h' => .ok v h'
    | none => .bad)
  | r => r
def evLock (fe : Ev) (body : Ev) : Ev := fun σ h => match fe σ h with
  | .ok (.ref i) _ => (match h.get i with
    | some (.dct t kvs) => unlRes i t kvs (body σ (h.put i (.fdc t kvs)))
    | _ => body σ h)
  | _ => body σ h
theorem se_lock {e : Expr} {body : Ev} (fe : Ev) (hb : SE T X e body) : SE T X e (evLock fe body) := fun W tk =>
  ⟨fun pins s σ H Q I ⟨ι, hp, σi, R, S, P⟩ => by
    unfold evLock at P
    split at P
    · split at P
      · rename_i i _ _ _ t kvs hi
        obtain ⟨a, ha, u, hH, o⟩ := R.ob i _ hi
        obtain ⟨s1, s2, s3, s4⟩ := dct_sh o
        refine (pe_lock (hb W tk)).run pins s σ H Q I ⟨a, u, hH, s3, fun od => ?_⟩
        obtain ⟨R', e'⟩ := lock_rel R hi ha hH o od
        refine ⟨ι, hp.put i (.fdc t kvs), σi, R', S.up e', ?_⟩
        revert P
        cases body σi (hp.put i (.fdc t kvs)) with
        | ok v h2 =>
          intro P ι' H' V R2 e2 r2
          unfold unlRes at P
          simp only at P
          split at P
          · rename_i h3 hu
            obtain ⟨f1, f2, f3, f4⟩ := unlock_rel hH o R2 ha e2 hu
            exact ⟨f1, P ι' _ V f2 f4 (r2.upW f3)⟩
          · exact P.elim
        | err c fs h2 => exact fun P => DX.up e' P
        | bad => exact fun P => P
      · exact (hb W tk).run pins s σ H Q I ⟨ι, hp, σi, R, S, P⟩
    · exact (hb W tk).run pins s σ H Q I ⟨ι, hp, σi, R, S, P⟩⟩

/-! ### a new dict -/
theorem dn_empty {P : Program} {w : World} {H : Hp} (h : Heap) (hb : sysModules < h.objs.size) : ObjOk P w H (h.push { cls := .type "dict", data := .dict #[] }) h.objs.size (DnO P w h.objs.size []) :=
  ⟨⟨[], _, #[], 0, .nil, Nat.zero_le _, beq_eq_false_iff_ne.mpr (Ne.symm (Nat.ne_of_lt hb)), Heap.get?_push_size _ rfl, ⟨rfl, rfl, rfl⟩, rfl, rfl, List.nodup_nil⟩, ⟨_, Heap.get?_push_size _ rfl⟩, dn_stable⟩
def emptyO (T : Tab) (t : Bool) (a : Addr) : HO := cond t (DnO T.P T.w a []) (.dK [])
theorem emptyO_or (t : Bool) (a : Addr) : ORd T ι H t [] (emptyO T t a) a := by
  cases t with
  | false => exact ⟨[], rfl, .nil⟩
  | true => exact ⟨[], rfl, .nil⟩
theorem emptyO_ok (B : Bd T X p d) (t : Bool) (h : Heap) (hb : sysModules < h.objs.size) {H : Hp} : ObjOk X.prog X.w H (h.push { cls := .type "dict", data := .dict #[] }) h.objs.size (emptyO T t h.objs.size) := by
  cases t with
  | false => exact dk_empty h hb
  | true => show ObjOk X.prog X.w H _ _ (DnO T.P T.w _ []); rw [← B.hP, ← B.hw]; exact dn_empty h hb
theorem Rel.newDct {a : Addr} (R : Rel T ι hp H) (t : Bool) (hn : H a = none) : Rel T (ι ++ [a]) (hp.add (.dct t [])) (upd H a (emptyO T t a)) ∧ Ext ι H (ι ++ [a]) (upd H a (emptyO T t a)) := by
  have e : Ext ι H (ι ++ [a]) (upd H a (emptyO T t a)) := Ext.new hn
  exact ⟨R.add e hn (keep_new hn) ⟨_, upd_same, emptyO_or t a⟩, e⟩
def evDN (t : Bool) : Ev := fun _ h => .ok (.ref h.n) (h.add (.dct t []))
theorem se_dn {pos : Pos} (t : Bool) (B : Bd T X p d) : SE T X (.Dict [] [] pos) (evDN t) := fun W tk =>
  ⟨fun pins s σ H Q I ⟨ι, hp, σi, R, S, P⟩ => by
    have hn : H s.heap.objs.size = Option.none := I.hok.fresh (Nat.le_refl _)
    obtain ⟨R', e'⟩ := R.newDct t hn
    refine wpAny_Dict_empty ⟨.ref s.heap.objs.size, _, I.laid (a := s.heap.objs.size) (o := emptyO T t s.heap.objs.size) (t' := s.toks) (fun _ _ q => Heap.get?_push_of_some _ q) (Nat.le_refl _) (emptyO_ok B t s.heap I.big), rfl, P _ _ _ R' e' (.ref ?_)⟩
    rw [← R.len]; simp⟩

/-! ### {k: v, ..} -/
abbrev EvP := ISt → IHeap → Res (List (IV × IV))
def epN : EvP := fun _ h => .ok [] h
def epC (fk fv : Ev) (fr : EvP) : EvP := fun σ h => (fk σ h).bind fun k h1 => (fv σ h1).bind fun v h2 => (fr σ h2).bind fun r h3 => .ok ((k, v) :: r) h3
def SPs (T : Tab) (X : Cx) (pos : Pos) (ks : List (Option Expr)) (vs : List Expr) (f : EvP) : Prop :=
  ∀ (W : WX), Takes X W → ∀ (pins : List (Addr × Obj)) (s : Shared) (σ : Sl) (σi : ISt) (H : Hp) (ι : List Addr) (hp : IHeap) (k : List (IV × IV) → IHeap → Prop) (Qf : List (Value × Value) → Shared → Prop), Inv X pins σ H s → Rel T ι hp H → RSt T ι H σi σ → (f σi hp).wp k (DX T ι H W σ) →
    (∀ us s1 ι1 hp1 kvs H1 rows, Inv X pins σ H1 s1 → Rel T ι1 hp1 H1 → Ext ι H ι1 H1 → Paired (RR T ι1 H1) kvs rows → VV rows us → k kvs hp1 → Qf us s1) →
    wpAny (model X.prog X.w) X.A (evalPairs (pairTrees ks vs X.env pos)) Qf X.xe s
theorem sp_n {pos : Pos} : SPs T X pos [] [] epN := fun W tk pins s σ σi H ι hp k Qf I R S P cont => pairTrees_nil_walk (cont _ _ ι hp [] H [] I R .refl .nil .nil P)
theorem rr_up {ι' : List Addr} {H' : Hp} (e : Ext ι H ι' H') {kvs : List (IV × IV)} {rows : List (L2.V × L2.V)} (h : Paired (RR T ι H) kvs rows) : Paired (RR T ι' H') kvs rows := Paired.mapP h fun _ _ q => ⟨q.1.up e, q.2.up e⟩
theorem sp_c {pos : Pos} {k v : Expr} {ks : List (Option Expr)} {vs : List Expr} {fk fv : Ev} {fr : EvP} (hk : SE T X k fk) (hv : SE T X v fv) (hr : SPs T X pos ks vs fr) : SPs T X pos (some k :: ks) (v :: vs) (epC fk fv fr) := fun W tk pins s σ σi H ι hp kk Qf I R S P cont =>
  pairTrees_cons_walk (hk.go tk I R S (wp_bind P) fun u s1 ι1 hp1 x V1 H1 I1 R1 e1 S1 r1 rv1 q1 => hv.go tk I1 R1 S1 (wp_mono (wp_bind q1) (fun _ _ z => z) fun _ _ _ => DX.up e1) fun u2 s2 ι2 hp2 y V2 H2 I2 R2 e2 S2 r2 rv2 q2 =>
    hr W tk pins s2 σ σi H2 ι2 hp2 (fun r h3 => kk ((x, y) :: r) h3) _ I2 R2 S2 (wp_mono (wp_bind q2) (fun _ _ z => z) fun _ _ _ => DX.up (e1.trans e2)) fun us s3 ι3 hp3 kvs H3 rows I3 R3 e3 pr vv q3 =>
      cont _ s3 ι3 hp3 ((x, y) :: kvs) H3 ((V1, V2) :: rows) I3 R3 ((e1.trans e2).trans e3) (.cons ⟨r1.up (e2.trans e3), r2.up e3⟩ pr) (.cons ⟨rv1, rv2⟩ vv) q3)
/-- the entries, one by one -/
def dputs (t : Bool) (acc : List (IV × IV)) : List (IV × IV) → Option (List (IV × IV))
  | [] => some acc
  | (k, v) :: r => cond (kvalid t k) (dputs t (dput k v acc) r) none
def evDD (t : Bool) (fp : EvP) : Ev := fun σ h => (fp σ (h.add (.dct t []))).bind fun kvs h1 => cond (Nat.ble kvs.length 15) (match dputs t [] kvs with
  | some es => (match h1.get h.n with
    | some (.dct t' []) => cond (beqB t' t) (.ok (.ref h.n) (h1.put h.n (.dct t es))) .bad
    | _ => .bad)
  | none => .bad) .bad
theorem dputs_k : ∀ {kvs : List (IV × IV)} {rows : List (L2.V × L2.V)} {acc es : List (IV × IV)} {ks : List (Key × L2.V)}, Paired (RR T ι H) kvs rows → Paired (fun (kv : IV × IV) (q : Key × L2.V) => kv.1 = keyIV q.1 ∧ RV T ι H kv.2 q.2) acc ks → dputs false acc kvs = some es →
    ∃ ps : List (Key × L2.V), rows = ps.map (fun kv => (kV kv.1, kv.2)) ∧ Paired (fun (kv : IV × IV) (q : Key × L2.V) => kv.1 = keyIV q.1 ∧ RV T ι H kv.2 q.2) es (mergeK ks ps)
  | [], _, acc, es, ks, .nil, a, e => by cases e; exact ⟨[], rfl, a⟩
  | (k, v) :: kvs, (V1, V2) :: rows, acc, es, ks, .cons ⟨r1, r2⟩ t, a, e => by
    have e : cond (kvalid false k) (dputs false (dput k v acc) kvs) none = some es := e
    cases hv : kvalid false k with
    | false => rw [hv] at e; cases e
    | true =>
      rw [hv] at e
      obtain ⟨kk, rfl⟩ := kvalid_k hv
      have hV : V1 = kV kk := by cases kk <;> cases r1 <;> rfl
      subst hV
      obtain ⟨ps, rfl, q⟩ := dputs_k t (rk_put r2 a) e
      exact ⟨(kk, V2) :: ps, rfl, q⟩
theorem dputs_n (I : Inv X pins σ H s) (hK : X.K = T.K) : ∀ {kvs : List (IV × IV)} {rows : List (L2.V × L2.V)} {us : List (Value × Value)} {acc es : List (IV × IV)} {xs : List (NestedKey × Addr × L2.V)} {ws : List (NestedKey × Addr × Value)}, Paired (RR T ι H) kvs rows → VV rows us → Paired (RN T ι H) acc xs → Paired NW xs ws → dputs true acc kvs = some es →
    ∃ ps xs', CarriesH (nestedKind X.prog X.w) s.heap us ps ∧ Paired (RN T ι H) es xs' ∧ Paired NW xs' (storedAllH ws ps)
  | [], _, _, acc, es, xs, ws, .nil, .nil, a, b, e => by cases e; exact ⟨[], xs, trivial, a, b⟩
  | (k, v) :: kvs, (V1, V2) :: rows, (u1, u2) :: us, acc, es, xs, ws, .cons ⟨r1, r2⟩ t, .cons ⟨v1, v2⟩ tv, a, b, e => by
    have e : cond (kvalid true k) (dputs true (dput k v acc) kvs) none = some es := e
    cases hv : kvalid true k with
    | false => rw [hv] at e; cases e
    | true =>
      rw [hv] at e
      obtain ⟨⟨ys, rfl⟩, kk, hk⟩ := kvalid_t hv
      cases r1 with
      | @tup _ _ c ht rt =>
        cases v1
        have rk := RV.tup ht rt
        obtain ⟨xs1, g1, g2⟩ := dn_put hk rk r2 v2 a b
        obtain ⟨ps, xs', c1, c2, c3⟩ := dputs_n I hK t tv g1 g2 e
        exact ⟨(kk, c, u2) :: ps, xs', ⟨rfl, rfl, nk_key I hK rk hk, c1⟩, c2, c3⟩
theorem dd_body {t : Bool} {n : Nat} {kvs : List (IV × IV)} {h1 : IHeap} {Qk : IV → IHeap → Prop} {Qe : Nat → Fs → IHeap → Prop} (q : (cond (Nat.ble kvs.length 15) (match dputs t [] kvs with
      | some es => (match h1.get n with
        | some (.dct t' []) => cond (beqB t' t) (.ok (.ref n) (h1.put n (.dct t es))) .bad
        | _ => .bad)
      | none => .bad) .bad : Res IV).wp Qk Qe) : kvs.length ≤ 15 ∧ ∃ es, dputs t [] kvs = some es ∧ h1.get n = some (.dct t []) ∧ Qk (.ref n) (h1.put n (.dct t es)) := by
  cases hb : Nat.ble kvs.length 15 with
  | false => rw [hb] at q; exact q.elim
  | true =>
    rw [hb] at q
    have q : (match dputs t [] kvs with
      | some es => (match h1.get n with
        | some (.dct t' []) => cond (beqB t' t) (.ok (.ref n) (h1.put n (.dct t es))) .bad
        | _ => .bad)
      | none => .bad : Res IV).wp Qk Qe := q
    split at q
    · rename_i es he
      split at q
      · rename_i t' hg
        cases hb2 : beqB t' t with
        | false => rw [hb2] at q; exact q.elim
        | true =>
          rw [hb2] at q
          rw [beqB_d] at hb2
          have := of_decide_eq_true hb2
          subst this
          exact ⟨Nat.le_of_ble_eq_true hb, es, he, hg, q⟩
      · exact q.elim
    · exact q.elim
/-- a display whose keys are nested tuples: the new dict's entries with the keys' own tuples -/
theorem disp_nested {pos : Pos} {ks : List (Option Expr)} {vs : List Expr} {Qf : Value → Shared → Prop} (hu : X.A.units + 8 < cLine) (hall : ks.all (·.isSome) = true) (hl : ks.length = vs.length) (h0 : ks ≠ []) (h15 : ks.length ≤ 15)
    (run : wpAny (model X.prog X.w) X.A (evalPairs (pairTrees ks vs X.env pos)) (fun us s1 => ∃ ps, CarriesH (nestedKind X.prog X.w) s1.heap us ps ∧ s1.heap.DictOfH (nestedKind X.prog X.w) s.heap.objs.size [] ∧
      ∀ h' t, h'.DictOfH (nestedKind X.prog X.w) s.heap.objs.size (storedAllH [] ps) → Heap.SameBut s.heap.objs.size s1.heap h' → Qf (.ref s.heap.objs.size) ⟨h', s1.gens, s1.drawn, t, s1.os⟩) X.xe ⟨s.heap.push { cls := .type "dict", data := .dict #[] }, s.gens, s.drawn, s.toks, s.os⟩) :
    wpAny (model X.prog X.w) X.A (eval (.Dict ks vs pos) X.env) Qf X.xe s := by
  have len := pairTrees_length ks vs X.env pos hall hl
  have ne : pairTrees ks vs X.env pos ≠ [] := fun q => h0 (List.length_eq_zero_iff.mp (len.symm.trans (q ▸ rfl)))
  have sub := wpAny_subDictH (knd := nestedKind X.prog X.w) (Q := fun a s' => Qf (.ref a) s') hu (len ▸ h15) run
  rw [arm_eval_Dict, zip_pairTrees ks vs X.env pos hall hl, dictDisplay_pairs _ ne (by omega)]
  exact wpAny_bind (wpAny_standAt (wpAny_bind (wpAny_mono sub (fun _ _ q => wpAny_pure q) fun _ _ q => q)))
theorem se_dd {pos : Pos} {ks : List (Option Expr)} {vs : List Expr} {fp : EvP} (t : Bool) (B : Bd T X p d) (h : SPs T X pos ks vs fp) (hall : ks.all (·.isSome) = true := by rfl) (hl : ks.length = vs.length := by rfl) (h0 : ks ≠ [] := by simp) (h15 : ks.length ≤ 15 := by decide) : SE T X (.Dict ks vs pos) (evDD t fp) := fun W tk =>
  ⟨fun pins s σ H Q I ⟨ι, hp, σi, R, S, P⟩ => by
    have hn : H s.heap.objs.size = Option.none := I.hok.fresh (Nat.le_refl _)
    obtain ⟨R', e'⟩ := R.newDct t hn
    have I1 := I.laid (a := s.heap.objs.size) (o := emptyO T t s.heap.objs.size) (h' := s.heap.push { cls := .type "dict", data := .dict #[] }) (t' := s.toks) (fun _ _ q => Heap.get?_push_of_some _ q) (Nat.le_refl _) (emptyO_ok B t s.heap I.big)
    have hix : (ι ++ [s.heap.objs.size])[hp.n]? = some s.heap.objs.size := by rw [← R.len]; simp
    have run := fun Qf => h W tk pins { s with heap := s.heap.push { cls := .type "dict", data := .dict #[] } } σ σi _ (ι ++ [s.heap.objs.size]) (hp.add (.dct t [])) (fun kvs h1 => (cond (Nat.ble kvs.length 15) (match dputs t [] kvs with
      | some es => (match h1.get hp.n with
        | some (.dct t' []) => cond (beqB t' t) (.ok (.ref hp.n) (h1.put hp.n (.dct t es))) .bad
        | _ => .bad)
      | none => .bad) .bad : Res IV).wp (DV T ι H Q) (DX T ι H W σ)) Qf I1 R' (S.up e') (wp_mono (wp_bind P) (fun _ _ z => z) fun _ _ _ => DX.up e')
    have room : (nestedKind X.prog X.w).room X.A := by show X.A.units + 8 < cLine; have := B.hu; omega
    cases t with
    | false =>
      refine wpAny_Dict_walk (knd := mixKind X.prog X.w) hall hl h0 h15 (run _ fun us s2 ι2 hp2 kvs H2 rows I2 R2 e2 pr vv q2 => ?_)
      obtain ⟨l15, es, he, hg, q2⟩ := dd_body q2
      obtain ⟨a, ha, u, hH, o⟩ := R2.ob _ _ hg
      have := (e2.at hix).symm.trans ha
      cases this
      obtain ⟨ps, rfl, mg⟩ := dputs_k pr (ks := []) .nil he
      have lps : ps.length ≤ 15 := by have := paired_len pr; rw [List.length_map] at this; omega
      obtain ⟨rs, c, rk⟩ := carries_of (P := X.prog) (w := X.w) vv
      obtain ⟨xs, rfl, q⟩ := o
      cases q
      obtain ⟨z, hd, vs0, r0, dd⟩ := dk_of I2.hok hH
      cases r0
      refine ⟨rs, c, dd, fun h' dd' hs' => ?_⟩
      have hz : (mergeK [] ps).length ≤ sizeLine := by have h1 := length_mergeK ps []; rw [List.length_nil] at h1; rw [sizeLine_eq]; omega
      have hex : ∃ q, h'.get? s.heap.objs.size = some q := let ⟨q, _, _, hq, _⟩ := dd'; ⟨q, hq⟩
      have ew : Ext ι2 H2 ι2 (upd H2 s.heap.objs.size (.dK (mergeK [] ps))) := Ext.wr hH (fun _ z => nomatch z) fun _ _ z => nomatch z
      exact ⟨.ref s.heap.objs.size, _, d_write I2 (by rw [hH]; exact True.intro) hs' hex (dk_new hz hd (rk.merge .nil) dd'), rfl,
        q2 ι2 _ _ (R2.put hg rfl ha ew rfl ⟨_, upd_same, _, rfl, Paired.mapP mg fun _ _ z => ⟨z.1, z.2.up ew⟩⟩) ((e'.trans e2).trans ew) (.ref ha)⟩
    | true =>
      refine disp_nested room hall hl h0 h15 (run _ fun us s2 ι2 hp2 kvs H2 rows I2 R2 e2 pr vv q2 => ?_)
      obtain ⟨l15, es, he, hg, q2⟩ := dd_body q2
      obtain ⟨a, ha, u, hH, o⟩ := R2.ob _ _ hg
      have := (e2.at hix).symm.trans ha
      cases this
      have D := dat_of B I2 (.inl hH) o
      obtain ⟨xs0, rfl, _⟩ := o
      obtain ⟨xs, ws, hm, h2, h3, hlx, hs⟩ := D
      cases h2; cases h3
      obtain ⟨ps, xs', c1, c2, c3⟩ := dputs_n I2 B.K pr vv (xs := []) (ws := []) .nil .nil he
      refine ⟨ps, c1, hm, fun h' tk' dd' hs' => ?_⟩
      have hlen : xs'.length ≤ sizeLine := by
        have e1 := paired_len c3
        have : ∀ (qs ws : List (NestedKey × Addr × Value)), (storedAllH ws qs).length ≤ ws.length + qs.length := by
          intro qs
          induction qs with
          | nil => intro ws; exact Nat.le_refl _
          | cons q qs ih =>
            intro ws
            have h1 := ih (storedH ws q.1 q.2.1 q.2.2)
            have h2 : (storedH ws q.1 q.2.1 q.2.2).length ≤ ws.length + 1 := by unfold storedH; split <;> simp
            show (storedAllH (storedH ws q.1 q.2.1 q.2.2) qs).length ≤ _
            rw [List.length_cons]; omega
        have h1 := this ps []
        have h2 := CarriesH.length c1
        have h3 := paired_len vv
        have h4 := paired_len pr
        rw [sizeLine_eq]
        have h5 : ([] : List (NestedKey × Addr × Value)).length = 0 := rfl
        omega
      obtain ⟨q, _, _, hq, _⟩ := id dd'
      have ew : Ext ι2 H2 ι2 (upd H2 s.heap.objs.size (DnO T.P T.w s.heap.objs.size xs')) := Ext.wr hH (fun _ z => nomatch z) fun _ _ z => nomatch z
      refine ⟨.ref s.heap.objs.size, upd H2 s.heap.objs.size (DnO T.P T.w s.heap.objs.size xs'), ?_, rfl,
        q2 ι2 _ _ (R2.put hg rfl ha ew rfl ⟨_, upd_same, xs', rfl, Paired.mapP c2 fun _ _ z => ⟨z.1, z.2.1.up ew, z.2.2.up ew⟩⟩) ((e'.trans e2).trans ew) (.ref ha)⟩
      have wr := d_write (t' := tk') I2 (by rw [hH]; exact True.intro) hs' ⟨q, hq⟩ (dn_obj (H' := upd H2 s.heap.objs.size (DnO X.prog X.w s.heap.objs.size xs')) dd' c3 hlen hs)
      rw [B.hP, B.hw] at wr
      exact wr⟩
end
end SV
set_option maxHeartbeats 3999999
namespace SV
open PySem PySem.Spec
open PyProof.Rows L2

section
variable {T : Tab} {X : Cx} {p : Pg} {d : Nat} {W : WX} {pins : List (Addr × Obj)} {s : Shared} {σ : Sl} {σi : ISt} {ι : List Addr} {hp : IHeap} {H : Hp} {Q : VK}
/-! ### one entry of a dict comprehension -/
def DSet (T : Tab) (t : Bool) (D : Addr) (y z : L2.V) (H5 : Hp) (Nx : Hp → Prop) : Prop := ∃ (ι : List Addr) (hp : IHeap) (i : Nat) (kvs : List (IV × IV)) (yi zi : IV), Rel T ι hp H5 ∧ ι[i]? = some D ∧ hp.get i = some (.dct t kvs) ∧ RV T ι H5 yi y ∧ RV T ι H5 zi z ∧ kvalid t yi = true ∧ kvs.length < sizeLine ∧
  ∀ H', Rel T ι (hp.put i (.dct t (dput yi zi kvs))) H' → Ext ι H5 ι H' → Nx H'
theorem dsetc_ok {t : Bool} {D : Addr} {y z : L2.V} {u r : Value} {Nx : Hp → Prop} {E : Value → Shared → Prop} {Qf : Unit → Shared → Prop} (B : Bd T X p d) (I : Inv X pins σ H s) (ds : DSet T t D y z H Nx) (ru : RelV y u) (rr : RelV z r)
    (h : ∀ s' H', Inv X pins σ H' s' → Nx H' → Qf () s') : wpAny (model X.prog X.w) X.A (dictSet D u r) Qf E s := by
  have hu := B.hu
  obtain ⟨ι, hp, i, kvs, yi, zi, R, ha, hi, ry, rz, hv, hl, cont⟩ := ds
  obtain ⟨a, ha', uo, hH, o⟩ := R.ob i _ hi
  have := ha.symm.trans ha'
  cases this
  cases t with
  | false =>
    obtain ⟨ks, rfl, h2⟩ := o
    obtain ⟨kk, rfl⟩ := kvalid_k hv
    have hV : y = kV kk := by cases kk <;> cases ry <;> rfl
    subst hV
    have ew : Ext ι H ι (upd H D (.dK (putK ks kk z))) := Ext.wr hH (fun _ z => nomatch z) fun _ _ z => nomatch z
    exact d_dictSet I hH (by rw [← paired_len h2]; exact hl) ru rr fun s' I' => h s' _ I' (cont _ (R.put hi rfl ha ew rfl ⟨_, upd_same, _, rfl, Paired.mapP (rk_put rz h2) fun _ _ q => ⟨q.1, q.2.up ew⟩⟩) ew)
  | true =>
    have DD := dat_of B I (.inl hH) o
    obtain ⟨xs0, rfl, _⟩ := o
    obtain ⟨xs, ws, hm, h2, h3, hl', hs⟩ := DD
    obtain ⟨⟨ys, rfl⟩, kk, hk⟩ := kvalid_t hv
    cases ry with
    | @tup _ _ b ht rt =>
      cases ru
      have rk := RV.tup ht rt
      have hkey := nk_key I B.K rk hk
      have room : (nestedKind X.prog X.w).room X.A := by show X.A.units + 8 < cLine; omega
      obtain ⟨xs', g1, g2⟩ := dn_put hk rk rz rr h2 h3
      have hlen : xs'.length ≤ sizeLine := by rw [← paired_len g1]; have := dput_length (.tup ys) zi kvs; omega
      have ew : Ext ι H ι (upd H D (DnO T.P T.w D xs')) := Ext.wr hH (fun _ z => nomatch z) fun _ _ z => nomatch z
      refine wpAny_dictSet_heap (hsz := by rw [← paired_len h3]; exact hl') room hkey hm fun h' dd' hs' => h _ (upd H D (DnO T.P T.w D xs')) ?_ (cont _ ?_ ew)
      · obtain ⟨q, _, _, hq, _⟩ := id dd'
        have wr := d_write (t' := s.toks + (nestedKind X.prog X.w).draws kk) I (by rw [hH]; exact True.intro) hs' ⟨q, hq⟩ (dn_obj (H' := upd H D (DnO X.prog X.w D xs')) dd' g2 hlen hs)
        rw [B.hP, B.hw] at wr
        rw [B.hP, B.hw]
        exact wr
      · exact R.put hi rfl ha ew rfl ⟨_, upd_same, xs', rfl, Paired.mapP g1 fun _ _ q => ⟨q.1, q.2.1.up ew, q.2.2.up ew⟩⟩

/-! ### the block of a dict comprehension -/
/-- what one turn owes: its entry, or none -/
def Turned (T : Tab) (t : Bool) (g : TG) (tt : TT) (tk tv : TE) (vs : List Nat) (σ : Sl) (D : Addr) (Nx : Hp → Prop) (x : L2.V) (H : Hp) : Prop := g x (wipe σ vs) H fun σ2 H2 => wipe σ2 vs = wipe σ vs ∧ tt σ2 H2 fun b H3 =>
  if b = true then tk σ2 H3 fun y H4 => tv σ2 H4 fun z H5 => DSet T t D y z H5 Nx else Nx H3
/-- the loop as the reading sees it: a measure, and at each place the end or one more turn -/
def Looped (T : Tab) (t : Bool) (J : It) (g : TG) (tt : TT) (tk tv : TE) (vs : List Nat) (σ : Sl) (D : Addr) (Q : VK) (W : Nat → Nat → Hp → Prop) : Prop := ∀ i m H, W i m H →
  (J.stop i H ∧ Q (.ref D) H) ∨ (J.go i H ∧ ∃ Nx : Hp → Prop, (∀ H', Nx H' → ∃ m', m' < m ∧ W (i + 1) m' H') ∧ ∀ x H', J.yld i H x H' → Turned T t g tt tk tv vs σ D Nx x H')
def tDcX (T : Tab) (t : Bool) (wi : TI) (g : TG) (tt : TT) (tk tv : TE) (vs : List Nat) : TE := fun σ H Q => wi σ H fun J H1 => ∀ D, H1 D = none → ∃ W, (∃ m, W 0 m (upd H1 D (emptyO T t D))) ∧ Looped T t J g tt tk tv vs σ D Q W
/-- the state of the block's loop at i, n turns at most to come -/
def AtTurn (X : Cx) (s3 : Shared) (H3 : Hp) (scope : Scope) (ce : Env) (fp : List Addr) (σ : Sl) (vs : List Nat) (tn : Nat → Heap → Prop) (W : Nat → Nat → Hp → Prop) (n : Nat) (s' : Shared) : Prop :=
  ∃ i H', Inv (X.blk s3 H3 scope ce fp) [] (wipe σ vs) H' s' ∧ tn i s'.heap ∧ (∀ b ∈ fp, H' b = none) ∧ W i n H'
section
variable {s3 : Shared} {H3 : Hp} {scope : Scope} {ce : Env} {fp : List Addr} {vs : List Nat} {tn : Nat → Heap → Prop} {Wm : Nat → Nat → Hp → Prop} {tg iter kx vx : Expr} {ifs : List Expr} {J : It} {it : Addr}
/-- the walk's records, seen in the block -/
theorem blk_fp {σ' : Sl} {H' : Hp} {s' : Shared} (I : Inv (X.blk s3 H3 scope ce fp) [] σ' H' s') (h0 : ∀ b ∈ fp, H' b = none) : ∀ b ∈ fp, FpOk (X.blk s3 H3 scope ce fp) [] H' b := fun b hb => by
  have := I.ok.exf b hb
  exact ⟨h0 b hb, this.1, I.ok.exfs b hb, .inl hb, fun x c e => this.2 x c e, fun q hq => by simp [Cx.blk] at hq⟩
/-- a turn is over: the names of the block are wiped again -/
theorem blk_next {σ8 : Sl} {H' : Hp} {s7 s' : Shared} {i n : Nat} (tu : Turn X.prog X.w X.K tg J fp it tn) (t7 : tn (i + 1) s7.heap) (ew : wipe σ8 vs = wipe σ vs) (I : Inv (X.blk s3 H3 scope ce fp) ([] ++ pinsAt fp s7.heap) σ8 H' s')
    (nx : ∃ m', m' < n ∧ Wm (i + 1) m' H') : ∃ m, m < n ∧ AtTurn X s3 H3 scope ce fp σ vs tn Wm m s' := by
  obtain ⟨m', lt, w⟩ := nx
  have kept : ∀ {b o}, b ∈ fp → s7.heap.get? b = some o → s'.heap.get? b = some o ∧ H' b = none := fun hb e => by
    have := I.pin _ (List.mem_append_right _ (List.mem_append_right _ (mem_pinsAt hb e)))
    exact ⟨this.1, this.2.1⟩
  refine ⟨m', lt, i + 1, H', (I.unpinned (pins := [])).weak ?_ ?_, tu.keep _ _ _ t7 fun b hb o e => (kept hb e).1, fun b hb => ?_, w⟩
  · rw [← ew, wipe_length]
  · exact fun j v e => (wipe_some (by rw [ew]; exact e)).1
  · obtain ⟨o, e, _⟩ := tu.obj _ _ t7 b hb
    exact (kept hb e).2
theorem dc_turn {t : Bool} {g : TG} {tt : TT} {tk tv : TE} {D : Addr} {R : PySem.Result → Shared → Prop} {n : Nat} {s5 : Shared} (B : Bd T X p d) (hc : X.calm = true) (tu : Turn X.prog X.w X.K tg J fp it tn) (lp : Looped T t J g tt tk tv vs σ D Q Wm)
    (pg : PG (X.blk s3 H3 scope ce fp) tg g) (pt : PTs (X.blk s3 H3 scope ce fp) ifs tt) (pk : PE (X.blk s3 H3 scope ce fp) kx tk) (pv : PE (X.blk s3 H3 scope ce fp) vx tv) (hx : (X.blk s3 H3 scope ce fp).xe = fun _ _ => False)
    (at5 : AtTurn X s3 H3 scope ce fp σ vs tn Wm n s5) (fin : ∀ (i : Nat) (H' : Hp) (s' : Shared), Inv (X.blk s3 H3 scope ce fp) [] (wipe σ vs) H' s' → Q (.ref D) H' → R (.ok .next) s') {E : Value → Shared → Prop} :
    wpAny (model X.prog X.w) X.A (pyNext (.ref it)) (fun r s₁ => match r with
      | none => R (.ok .next) s₁
      | some v => wpAny (model X.prog X.w) X.A (letOwnedTupleGo tg (.ref it) v) (fun _ s₁' => wpAny (model X.prog X.w) X.A (assign tg ce v) (fun _ s₂ =>
          wpAny (model X.prog X.w) X.A (forIn ifs true fun c r => if r = true then do let ok ← isTrue c ce (eval c ce); pure (ForInStep.yield ok) else pure (ForInStep.yield r)) (fun ok s₃ =>
            if ok = true then wpAny (model X.prog X.w) X.A (eval kx ce) (fun kv s₄ => wpAny (model X.prog X.w) X.A (eval vx ce) (fun vv s₅ =>
              wpAny (model X.prog X.w) X.A (dictSet D kv vv) (fun _ s₆ => ∃ m, m < n ∧ AtTurn X s3 H3 scope ce fp σ vs tn Wm m s₆) E s₅) E s₄) E s₃
            else ∃ m, m < n ∧ AtTurn X s3 H3 scope ce fp σ vs tn Wm m s₃) E s₂) E s₁') E s₁) E s5 := by
  obtain ⟨i, H5, I5, t5, n5, w5⟩ := at5
  rcases lp i n H5 w5 with ⟨st, q⟩ | ⟨go, Nx, hNx, step⟩
  · exact thnF (tu.done (X.blk s3 H3 scope ce fp) rfl rfl rfl hc i [] s5 _ H5 (fun _ _ => False) I5 (blk_fp I5 n5) t5 st) fun r s6 ⟨e, I6⟩ => by
      subst e
      exact fin i H5 s6 I6 q
  · refine thnF (tu.item (X.blk s3 H3 scope ce fp) rfl rfl rfl hc i [] s5 _ H5 (fun _ _ => False) I5 (blk_fp I5 n5) t5 go) fun r s6 ⟨u, e, own⟩ => ?_
    subst e
    refine thnF own fun _ s7 ⟨x, H7, I7, rx, yx, t7, n7⟩ => ?_
    have pin7 := I7.pinned (blk_fp I7 n7) (tu.obj _ _ t7)
    have a1 := pg.run _ s7 _ H7 x u _ pin7 rx (step x H7 yx)
    rw [hx] at a1
    refine thnF a1 fun _ s8 ⟨σ8, H8, I8, ew, q8⟩ => ?_
    have a2 := pt.run _ s8 σ8 H8 _ I8 q8
    rw [hx] at a2
    refine thnF a2 fun b s9 ⟨H9, I9, q9⟩ => ?_
    cases b with
    | false => exact blk_next tu t7 ew I9 (hNx _ (by simpa using q9))
    | true =>
      simp only [if_true] at q9 ⊢
      have a3 := pk.run _ s9 σ8 H9 _ I9 q9
      rw [hx] at a3
      refine thnF a3 fun ku s10 ⟨y, H10, I10, ry, q10⟩ => ?_
      have a4 := pv.run _ s10 σ8 H10 _ I10 q10
      rw [hx] at a4
      exact thnF a4 fun vu s11 ⟨z, H11, I11, rz, q11⟩ => dsetc_ok (X := X.blk s3 H3 scope ce fp) (B.blk) I11 q11 ry rz fun s12 H12 I12 nx => blk_next tu t7 ew I12 (hNx _ nx)
end
abbrev dcExpr (kx vx tg iter : Expr) (ifs : List Expr) (scope : Scope) (pos : Pos) : Expr := .DictComp kx vx [⟨tg, iter, ifs, 0⟩] scope pos
/-- the clause's parts in the block, wherever it is laid -/
structure InBlk (X : Cx) (scope : Scope) (tg : Expr) (ifs : List Expr) (kx vx : Expr) (g : TG) (tt : TT) (tk tv : TE) : Prop where
  g : ∀ (s : Shared) (H : Hp) (C : Addr) (cl : List (Str × Addr)) (fp : List Addr), PG (X.blk s H scope (compEnvC scope cl C X.env) fp) tg g
  t : ∀ (s : Shared) (H : Hp) (C : Addr) (cl : List (Str × Addr)) (fp : List Addr), PTs (X.blk s H scope (compEnvC scope cl C X.env) fp) ifs tt
  k : ∀ (s : Shared) (H : Hp) (C : Addr) (cl : List (Str × Addr)) (fp : List Addr), PE (X.blk s H scope (compEnvC scope cl C X.env) fp) kx tk
  v : ∀ (s : Shared) (H : Hp) (C : Addr) (cl : List (Str × Addr)) (fp : List Addr), PE (X.blk s H scope (compEnvC scope cl C X.env) fp) vx tv
theorem dc_block {t : Bool} {kx vx tg iter : Expr} {ifs : List Expr} {scope : Scope} {own : List (Str × Nat)} {pos pos' : Pos} {wi : TI} {g : TG} {tt : TT} {tk tv : TE} {use : Option (Value → Sem Unit)} {Qf : Value → Shared → Prop} (B : Bd T X p d) (hc : X.calm = true) (hN : X.N.Nodup) (I : Inv X pins σ H s) (hi : PI X tg iter wi) (ok : BlkOk X.N X.env.scope scope own)
    (ib : InBlk X scope tg ifs kx vx g tt tk tv) (hs : ∀ x, foldedSetIterable iter X.env x = pure x) (h : tDcX T t wi g tt tk tv (own.map (·.2)) σ H Q)
    (out : ∀ D C s' m H', Inv X pins σ H' s' → Q (.ref D) H' → s'.heap.Ns C m → FpOk X pins H' C → compPost (model X.prog X.w) X.A X.xe use Qf (.ref D) C (.ok .next) s') :
    wpAny (model X.prog X.w) X.A (comprehension (dcExpr kx vx tg iter ifs scope pos) scope X.env pos' newDict false (eval iter X.env) use) Qf X.xe s := by
  have clo := closure_ok (env := X.env) (scope := scope) fun y hy e => (ok.free y hy e).elim (fun k => I.ok.has _ (.inl k)) fun k => I.ok.has _ (.inr k)
  refine wpAny_comprehension_free rfl hs clo ok.kind (fun y hy e => (ok.uniq y hy).trans (congrArg some e)) (thn (hi.run pins s σ H _ I h) fun xv s1 begun => thn begun ?_)
  rintro _ s2 ⟨it, fp, tn, J, H2, rfl, I2, tu, t2, fr, go⟩
  have fresh : H2 s2.heap.objs.size = none := I2.hok.fresh (Nat.le_refl _)
  obtain ⟨Wm, ⟨m0, w0⟩, lp⟩ := go _ fresh
  refine wpAny_newObj_type ?_
  refine newEnv_comp ?_
  -- the new dict, then the block
  have old : ∀ b o, s2.heap.get? b = some o → (s2.heap.push { cls := .type "dict", data := .dict #[] }).get? b = some o := fun b o e => Heap.get?_push_of_some _ e
  have I3 := I2.laid (a := s2.heap.objs.size) (t' := s2.toks) old (Nat.le_refl _) (emptyO_ok B t s2.heap I2.big)
  have low : ∀ b ∈ fp, b < s2.heap.objs.size := fun b hb => let ⟨_, e, _⟩ := tu.obj _ _ t2 b hb; Heap.lt_size e
  have recs : ∀ b ∈ fp, FpOk X pins (upd H2 s2.heap.objs.size (emptyO T t s2.heap.objs.size)) b ∧ b < (s2.heap.push { cls := .type "dict", data := .dict #[] }).objs.size := fun b hb =>
    ⟨⟨(upd_ne (Nat.ne_of_lt (low b hb))).trans (fr b hb).1, (fr b hb).2⟩, by rw [Heap.size_push]; exact Nat.lt_succ_of_lt (low b hb)⟩
  have I4 := block_start I3 ok hN recs
  have t4 := tu.keep _ _ _ (tu.keep _ _ _ t2 fun b _ o e => old b o e) fun b _ o e => pushCells_keeps scope.names _ b o (Heap.get?_push_of_some { cls := .type "dict", data := .dict #[] } e)
  refine codeAny_compStart_dict ?_ (tu.self X.A 0 _ _ _ t4 ?_)
  all_goals
    refine compLoop_anyD (AtTurn X _ _ scope _ fp σ (own.map (·.2)) tn Wm) (fun n s5 a5 => dc_turn B hc tu lp (ib.g _ _ _ _ fp) (ib.t _ _ _ _ fp) (ib.k _ _ _ _ fp) (ib.v _ _ _ _ fp) rfl a5 fun i H' s' J' q => ?_) m0 ⟨0, _, I4, t4, fun b hb => (recs b hb).1.1, w0⟩
    obtain ⟨m, names, _⟩ := J'.loc
    have nl : H' (s2.heap.push { cls := .type "dict", data := .dict #[] }).objs.size = none := J'.free
    exact out _ _ s' m H' (I3.call' (ch := fp) J'.os J'.base J'.hok J'.bare fun b hb => ⟨(recs b hb).1.2.2.2.1, (recs b hb).1.2.1, (recs b hb).1.2.2.2.2.1, (recs b hb).1.2.2.2.2.2⟩) q names (I3.fpOk (Nat.le_refl _) nl)

/-! ### {k: v for .. in .. if ..} -/
def dcL (D : Nat) (t : Bool) (nx : Nx) (g : EvG) (ft : EvT) (fk fv : Ev) (σ : ISt) (vs : List Nat) : Nat → Nat → IHeap → Res IV
  | 0, _, _ => .bad
  | k + 1, i, h => match nx i h with
    | .bad => .bad
    | .stop => .ok (.ref D) h
    | .yld x => match g x (wipI σ vs) h with
      | .nx σ1 h1 => (match ft σ1 h1 with
        | .ok true h2 => (match fk σ1 h2 with
          | .ok y h3 => (match fv σ1 h3 with
            | .ok z h4 => (match h4.get D with
              | some (.dct t' acc) => cond (beqB t' t && kvalid t y && Nat.blt acc.length sizeLine) (dcL D t nx g ft fk fv σ vs k (i + 1) (h4.put D (.dct t (dput y z acc)))) .bad
              | _ => .bad)
            | _ => .bad)
          | _ => .bad)
        | .ok false h2 => dcL D t nx g ft fk fv σ vs k (i + 1) h2
        | _ => .bad)
      | _ => .bad
def evDC (t : Bool) (fi : EvI) (g : EvG) (ft : EvT) (fk fv : Ev) (vs : List Nat) : Ev := fun σ h => (fi σ h).bind fun nx h1 => dcL h1.n t nx g ft fk fv σ vs fuel 0 (h1.add (.dct t []))
abbrev noW : WX := fun _ _ _ _ => False
section
variable {t : Bool} {nx : Nx} {g : EvG} {ft : EvT} {fk fv : Ev} {vs : List Nat}
/-- the loop's end needs no exception's demand -/
theorem dcL_wp {D : Nat} {Qk : IV → IHeap → Prop} {Qe Qe' : Nat → Fs → IHeap → Prop} : ∀ (k i : Nat) (h : IHeap), (dcL D t nx g ft fk fv σi vs k i h).wp Qk Qe → (dcL D t nx g ft fk fv σi vs k i h).wp Qk Qe'
  | 0, _, _, q => q
  | k + 1, i, h, q => by
    unfold dcL at q ⊢
    cases e : nx i h with
    | bad => rw [e] at q; exact q
    | stop => rw [e] at q; exact q
    | yld x =>
      rw [e] at q
      simp only at q ⊢
      split at q
      · split at q
        · split at q
          · split at q
            · split at q
              · rename_i t' acc _
                cases hb : (beqB t' t && kvalid t _ && Nat.blt acc.length sizeLine) with
                | false => rw [hb] at q; exact q.elim
                | true => rw [hb] at q; exact dcL_wp k _ _ q
              · exact q.elim
            · exact q.elim
          · exact q.elim
        · exact dcL_wp k _ _ q
        · exact q.elim
      · exact q.elim
/-- what is left of the loop at i, k turns at most -/
def DcAt (T : Tab) (t : Bool) (nx : Nx) (g : EvG) (ft : EvT) (fk fv : Ev) (vs : List Nat) (σi : ISt) (D : Nat) (Q : VK) (ι0 : List Addr) (H0 : Hp) (i k : Nat) (H : Hp) : Prop := ∃ ι' hp', Rel T ι' hp' H ∧ Ext ι0 H0 ι' H ∧ (dcL D t nx g ft fk fv σi vs k i hp').wp (DV T ι' H Q) (fun _ _ _ => False)
theorem dc_turns {ι0 : List Addr} {H0 : Hp} {J : It} {D : Nat} {Da : Addr} (hD : ι0[D]? = some Da) (S : RSt T ι0 H0 σi σ) (so : SrcOk T ι0 H0 nx J) : Looped T t J (tGo T g vs) (tT T noW ft) (tE T noW fk) (tE T noW fv) vs σ Da Q (DcAt T t nx g ft fk fv vs σi D Q ι0 H0) := by
  rintro i (_ | m) H1 ⟨ι1, hp1, R1, e1, P1⟩
  · exact P1.elim
  unfold dcL at P1
  cases z : nx i hp1 with
  | bad => rw [z] at P1; exact P1.elim
  | stop => rw [z] at P1; exact .inl ⟨so.stop i ι1 hp1 H1 e1 R1 z, P1 ι1 H1 _ R1 .refl (.ref (e1.at hD))⟩
  | yld x =>
    rw [z] at P1
    obtain ⟨hgo, hy⟩ := so.go i ι1 hp1 H1 x e1 R1 z
    refine .inr ⟨hgo, DcAt T t nx g ft fk fv vs σi D Q ι0 H0 (i + 1) m, fun H' q => ⟨m, Nat.lt_succ_self m, q⟩, fun V H2 yd => ?_⟩
    obtain ⟨R2, e2, r2⟩ := hy V H2 yd
    refine ⟨ι1, hp1, wipI σi vs, x, R2, (S.up (e1.trans e2)).wip vs, r2, ?_⟩
    simp only at P1
    split at P1
    case h_2 => exact P1.elim
    rename_i σ3 h3 _
    rename_i hg
    rw [hg]
    intro ι3 H3 σ4 R3 e3 S3 ew
    have e13 := e2.trans e3
    refine ⟨ew.trans (wipe_wipe vs), ι3, h3, σ3, R3, S3, ?_⟩
    split at P1
    · rename_i h4 ht
      rw [ht]
      intro ι4 H4 R4 e4
      rw [if_pos (by rfl)]
      refine ⟨ι4, h4, σ3, R4, S3.up e4, ?_⟩
      split at P1
      case h_2 => exact P1.elim
      rename_i y h5 hk
      rw [hk]
      intro ι5 H5 V5 R5 e5 r5
      refine ⟨ι5, h5, σ3, R5, S3.up (e4.trans e5), ?_⟩
      split at P1
      case h_2 => exact P1.elim
      rename_i zv h6 hv
      rw [hv]
      intro ι6 H6 V6 R6 e6 r6
      have e16 := ((e13.trans e4).trans e5).trans e6
      split at P1
      case h_2 => exact P1.elim
      rename_i t' acc hacc
      cases hb : (beqB t' t && kvalid t y && Nat.blt acc.length sizeLine) with
      | false => rw [hb] at P1; exact P1.elim
      | true =>
        rw [hb] at P1
        rw [Bool.and_eq_true_iff, Bool.and_eq_true_iff, beqB_d] at hb
        obtain ⟨⟨b1, b2⟩, b3⟩ := hb
        have := of_decide_eq_true b1
        subst this
        exact ⟨ι6, h6, D, acc, y, zv, R6, (e1.trans e16).at hD, hacc, r5.up e6, r6, b2, Nat.le_of_ble_eq_true b3, fun H' R' e' => ⟨ι6, _, R', (e1.trans e16).trans e', wp_mono P1 (fun _ _ => DV.up (e16.trans e')) fun _ _ _ z => z⟩⟩
    · rename_i h4 ht
      rw [ht]
      intro ι4 H4 R4 e4
      rw [if_neg (by decide)]
      exact ⟨ι4, h4, R4, (e1.trans e13).trans e4, wp_mono P1 (fun _ _ => DV.up (e13.trans e4)) fun _ _ _ z => z⟩
    · exact P1.elim
theorem dc_imp {fi : EvI} (h : tE T W (evDC t fi g ft fk fv vs) σ H Q) : tDcX T t (tI T W fi) (tGo T g vs) (tT T noW ft) (tE T noW fk) (tE T noW fv) vs σ H Q := by
  obtain ⟨ι, hp, σi, R, S, P⟩ := h
  refine ⟨ι, hp, σi, R, S, wp_mono (wp_bind P) (fun nx h1 q ι1 H1 J R1 e1 so D hD => ?_) fun _ _ _ z => z⟩
  obtain ⟨R2, e2⟩ := R1.newDct t hD
  have hDi : (ι1 ++ [D])[h1.n]? = some D := by rw [← R1.len]; simp
  exact ⟨_, ⟨fuel, _, _, R2, .refl, wp_mono (dcL_wp _ _ _ q) (fun _ _ => DV.up (e1.trans e2)) fun _ _ _ z => z⟩, dc_turns hDi (S.up (e1.trans e2)) (so.up e2)⟩
end
section
variable {tg iter kx vx : Expr} {ifs : List Expr} {scope : Scope} {own : List (Str × Nat)} {fi : EvI} {g : EvG} {ft : EvT} {fk fv : Ev} {pos : Pos}
theorem se_dc (t : Bool) (B : Bd T X p d) (hi : SI T X tg iter fi) (ok : BlkOk X.N X.env.scope scope own)
    (hg : ∀ (s : Shared) (H : Hp) (C : Addr) (cl : List (Str × Addr)) (fp : List Addr), SGo T (X.blk s H scope (compEnvC scope cl C X.env) fp) tg (own.map (·.2)) g) (ht : ∀ (s : Shared) (H : Hp) (C : Addr) (cl : List (Str × Addr)) (fp : List Addr), SPT T (X.blk s H scope (compEnvC scope cl C X.env) fp) ifs ft)
    (hk : ∀ (s : Shared) (H : Hp) (C : Addr) (cl : List (Str × Addr)) (fp : List Addr), SE T (X.blk s H scope (compEnvC scope cl C X.env) fp) kx fk)
    (hv : ∀ (s : Shared) (H : Hp) (C : Addr) (cl : List (Str × Addr)) (fp : List Addr), SE T (X.blk s H scope (compEnvC scope cl C X.env) fp) vx fv) (hs : ∀ x, foldedSetIterable iter X.env x = pure x := by intro _; rfl) :
    SE T X (.DictComp kx vx [⟨tg, iter, ifs, 0⟩] scope pos) (evDC t fi g ft fk fv (own.map (·.2))) := fun W tk => ⟨fun pins s σ H Q I h => by
  rw [arm_eval_DictComp]
  exact dc_block B B.calm B.nd I (hi W tk) ok ⟨hg, ht, fun s H C cl fp => hk s H C cl fp _ takes0, fun s H C cl fp => hv s H C cl fp _ takes0⟩ hs (dc_imp h) fun D C s' m H' I' q names f => ⟨m, names, fun h' same =>
    ⟨.ref D, H', I'.turnedL (t' := s'.toks) (ch := [C]) (fun b o hb e => (same.2 b (fun z => hb (z ▸ List.mem_singleton_self C))).trans e) (fun b hb => (List.mem_singleton.mp hb) ▸ f), rfl, q⟩⟩⟩
/-- name = {k: v for ..}, on one line, the name a plain local -/
theorem ss_setDc {y : Str} {py spos : Pos} (i : Nat) (t : Bool) (B : Bd T X p d) (hi : SI T X tg iter fi) (ok : BlkOk X.N X.env.scope scope own)
    (hg : ∀ (s : Shared) (H : Hp) (C : Addr) (cl : List (Str × Addr)) (fp : List Addr), SGo T (X.blk s H scope (compEnvC scope cl C X.env) fp) tg (own.map (·.2)) g) (ht : ∀ (s : Shared) (H : Hp) (C : Addr) (cl : List (Str × Addr)) (fp : List Addr), SPT T (X.blk s H scope (compEnvC scope cl C X.env) fp) ifs ft)
    (hk : ∀ (s : Shared) (H : Hp) (C : Addr) (cl : List (Str × Addr)) (fp : List Addr), SE T (X.blk s H scope (compEnvC scope cl C X.env) fp) kx fk)
    (hv : ∀ (s : Shared) (H : Hp) (C : Addr) (cl : List (Str × Addr)) (fp : List Addr), SE T (X.blk s H scope (compEnvC scope cl C X.env) fp) vx fv)
    (hsw : swapsWith (.DictComp kx vx [⟨tg, iter, ifs, 0⟩] scope pos) (some (.Name y py)) spos.line X.env = pure true) (hy : X.N[i]? = some y := by rfl) (hyl : X.env.scope.names.lookup y = some .local := by rfl) (hs : ∀ x, foldedSetIterable iter X.env x = pure x := by intro _; rfl) :
    SS T X (.Assign [.Name y py] (.DictComp kx vx [⟨tg, iter, ifs, 0⟩] scope pos) spos) (esSet i (evDC t fi g ft fk fv (own.map (·.2)))) := fun W tk => ⟨fun pins s σ H D I ⟨ι, hp, σi, R, S, P⟩ => by
  have rd := dc_imp (Q := fun x H1 => D.nx (σ.set i (some x)) H1) ⟨ι, hp, σi, R, S, wp_mono (st_wp P) (fun v h q ι' H' V' R' e' r' => q ι' H' _ R' e' ((S.up e').set r' i)) fun _ _ _ z => DXs.one S z⟩
  have used := exec_Assign_Name_used _ _ _ _ hsw
  rw [used]
  refine wpAny_bind (wpAny_standAt (wpAny_bind (wpAny_bind (thn (dc_block (pos' := firstIterPos [⟨tg, iter, ifs, 0⟩] pos) (use := some (assign (.Name y py) X.env)) (Qf := fun _ s' => SP X pins D .next s') B B.calm B.nd I (hi W tk) ok ⟨hg, ht, fun s H C cl fp => hk s H C cl fp _ takes0, fun s H C cl fp => hv s H C cl fp _ takes0⟩ hs rd
    fun Da C s' m H' I' q names f => ?_) fun _ s' q => wpAny_pure (wpAny_pure q)))))
  refine wpAny_assign_Name (store_ok2 (v := V.ref Da) I' B.nd hy (.inl hyl) rfl (fun s2 I2 ⟨c, same, hc⟩ => ?_) (.inr hyl))
  have apart : C ≠ c := hc.elim (fun z => z ▸ f.2.1) fun z q => f.2.2.2.2.1 y c z q.symm
  exact ⟨m, names.sameBut same apart, fun h3 same3 => ⟨_, H', I2.turnedL (t' := s2.toks) (ch := [C]) (fun b o hb e => (same3.2 b (fun z => hb (z ▸ List.mem_singleton_self C))).trans e) (fun b hb => (List.mem_singleton.mp hb) ▸ f), q⟩⟩⟩
end
end
end SV
set_option maxHeartbeats 3999999
namespace SV
open PySem PySem.Spec
open PyProof.Rows L2

section
variable {T : Tab} {X : Cx} {p : Pg} {d : Nat} {W : WX} {pins : List (Addr × Obj)} {s : Shared} {σ : Sl} {σi : ISt} {ι : List Addr} {hp : IHeap} {H : Hp} {Q : VK}
/-! ### what is not reached -/
def evBad : Ev := fun _ _ => .bad
def esBad : EvS := fun _ _ => .bad
def etBad : EvT := fun _ _ => .bad
theorem se_bad (e : Expr) : SE T X e evBad := fun W tk => ⟨fun pins s σ H Q I ⟨_, _, _, _, _, P⟩ => P.elim⟩
theorem st_bad (e : Expr) : ST T X e etBad := fun W tk => ⟨fun pins s σ H Q I ⟨_, _, _, _, _, P⟩ => P.elim⟩
theorem ss_bad (e : Stmt) : SS T X e esBad := fun W tk => ⟨fun pins s σ H D I ⟨_, _, _, _, _, P⟩ => P.elim⟩
/-- a call by values of which nothing is known -/
def ivBad : List IV → IHeap → Res IV := fun _ _ => .bad
theorem cs_bad (f : Value) : CallS T X f ivBad := fun W tk pins s σ H xs us Q ι hp is I rv R r P => P.elim

/-! ### len, list, sorted of a dict -/
def ivLenK (base : List IV → IHeap → Res IV) (is : List IV) (h : IHeap) : Res IV := match is with
  | [x] => (match dctOf x h with
    | some (_, kvs) => .ok (.int kvs.length) h
    | none => base is h)
  | _ => base is h
theorem one_val {x : IV} {Vs : List L2.V} {us : List Value} (r : RVs T ι H [x] Vs) (rv : Vals Vs us) : ∃ V u, Vs = [V] ∧ us = [u] ∧ RV T ι H x V ∧ RelV V u := by
  obtain ⟨V, rfl, rV⟩ := r.one
  obtain ⟨u, rfl, ru⟩ := rv.one
  exact ⟨V, u, rfl, rfl, rV, ru⟩
theorem cs_lenK {base : List IV → IHeap → Res IV} (B : Bd T X p d) (hb : CallS T X (.builtin "len") base) : CallS T X (.builtin "len") (ivLenK base) := by
  intro W tk pins s σ H xs us Q ι hp is I rv R r P
  unfold ivLenK at P
  split at P
  · rename_i x
    split at P
    · rename_i t kvs hd
      obtain ⟨V, u, rfl, rfl, rV, ru⟩ := one_val r rv
      obtain ⟨a, rfl, D⟩ := dctOf_at B I R rV hd
      cases ru
      cases t with
      | false =>
        obtain ⟨ks, h1, h2⟩ := D
        rw [paired_len h2] at P
        exact d_len I h1 fun tk' s' I' => ⟨.int ks.length, H, I', ⟨tk', rfl⟩, DV.val P R (.int _)⟩
      | true =>
        obtain ⟨xs, ws, hm, h2, h3, hl, hs⟩ := D
        rw [paired_len h2, paired_len h3] at P
        have hz : ws.length ≤ sizeLine := by rw [← paired_len h3]; exact hl
        refine call_len_dictH hs hm (by have := sizeLine_eq; omega) ⟨.int ws.length, H, I.tok _, ⟨_, rfl⟩, DV.val P R (.int _)⟩
    · exact hb W tk pins s σ H xs us Q ι hp _ I rv R r P
  · exact hb W tk pins s σ H xs us Q ι hp _ I rv R r P
/-- the entries of a dict, locked or not, as the object has them -/
theorem dct_rows (B : Bd T X p d) (I : Inv X pins σ H s) (R : Rel T ι hp H) {x : IV} {V : L2.V} {t : Bool} {kvs : List (IV × IV)} (r : RV T ι H x V) (e : dctOf x hp = some (t, kvs)) :
    ∃ a od es ep rows, V = .ref a ∧ s.heap.get? a = some od ∧ (a == sysModules) = false ∧ RowsOk od es ep rows ∧ Paired (RR T ι H) kvs rows ∧ kvs.length ≤ sizeLine := by
  unfold dctOf at e
  split at e
  · split at e
    · rename_i i t' kvs' hi
      cases e
      obtain ⟨a, rfl, _, u, h2, h3⟩ := R.at hi r
      obtain ⟨od, es, ep, rows, q⟩ := drows B I (.inl h2) h3
      exact ⟨a, od, es, ep, rows, rfl, q⟩
    · rename_i i t' kvs' hi
      cases e
      obtain ⟨a, rfl, _, o, u, h2, h3⟩ := R.at hi r
      obtain ⟨od, es, ep, rows, q⟩ := drows B I (.inr ⟨o, h2⟩) h3
      exact ⟨a, od, es, ep, rows, rfl, q⟩
    · cases e
  · cases e
def ivListK (base : List IV → IHeap → Res IV) (is : List IV) (h : IHeap) : Res IV := match is with
  | [x] => (match dctOf x h with
    | some (_, kvs) => .ok (.ref h.n) (h.add (.lst (kvs.map (·.1))))
    | none => base is h)
  | _ => base is h
theorem rr_keys : ∀ {kvs : List (IV × IV)} {rows : List (L2.V × L2.V)}, Paired (RR T ι H) kvs rows → RVs T ι H (kvs.map (·.1)) (rows.map (·.1))
  | _, _, .nil => .nil
  | _, _, .cons r t => .cons r.1 (rr_keys t)
theorem cs_listK {base : List IV → IHeap → Res IV} (B : Bd T X p d) (hb : CallS T X (.type "list") base) : CallS T X (.type "list") (ivListK base) := by
  intro W tk pins s σ H xs us Q ι hp is I rv R r P
  unfold ivListK at P
  split at P
  · rename_i x
    split at P
    · rename_i t kvs hd
      obtain ⟨V, u, rfl, rfl, rV, ru⟩ := one_val r rv
      obtain ⟨a, od, es, ep, rows, rfl, hg, lo, hr, pr, hl⟩ := dct_rows B I R rV hd
      cases ru
      have hz : es.size ≤ sizeLine := by rw [hr.n, ← paired_len pr]; exact hl
      refine PySem.W.kdl_call (KdlSrc.rawDict lo) (I.ok.hd B.calm) (⟨od, hg, hr.x, hr.d⟩ : s.heap.DictRaw a es ep) hz fun h' tk' acc c' keep hS items => ?_
      have len : acc.toList.length = rows.length := by rw [Array.length_toList, items.1, hr.n]
      have vals : Vals (rows.map (·.1)) acc.toList := vals_of_at (by rw [List.length_map, len]) fun j v u h1 h2 => by
        obtain ⟨hj, e⟩ := items.2 j u (by rw [← Array.getElem?_toList]; exact h2)
        obtain ⟨rr, h3, h4, _⟩ := hr.at_ j hj
        rw [List.getElem?_map, h3] at h1
        cases h1
        rw [e]; exact h4
      have new : ObjOk X.prog X.w (upd H s.heap.objs.size (.lst (rows.map (·.1)))) h' s.heap.objs.size (.lst (rows.map (·.1))) := ⟨by rw [List.length_map, ← hr.n]; exact hz, acc.toList, c', vals, by rw [Array.toArray_toList]; exact hS⟩
      exact ⟨.ref s.heap.objs.size, _, I.laid keep (Nat.le_refl _) new, rfl, DV.lst P R (rr_keys pr) _ (I.hok.fresh (Nat.le_refl _))⟩
    · exact hb W tk pins s σ H xs us Q ι hp _ I rv R r P
  · exact hb W tk pins s σ H xs us Q ι hp _ I rv R r P
/-! ints sorted -/
def insI (i : Int) : List Int → List Int
  | [] => [i]
  | j :: r => cond (decide (i ≤ j)) (i :: j :: r) (j :: insI i r)
def srtI : List Int → List Int
  | [] => []
  | i :: r => insI i (srtI r)
theorem insI_perm (i : Int) : ∀ l, (insI i l).Perm (i :: l)
  | [] => .refl _
  | j :: r => by
    unfold insI
    cases decide (i ≤ j)
    · exact (List.Perm.cons j (insI_perm i r)).trans (List.Perm.swap i j r)
    · exact .refl _
theorem srtI_perm : ∀ l, (srtI l).Perm l
  | [] => .refl _
  | i :: r => List.Perm.trans (insI_perm i (srtI r)) (List.Perm.cons i (srtI_perm r))
theorem insI_sorted (i : Int) : ∀ {l}, l.Pairwise (· ≤ ·) → (insI i l).Pairwise (· ≤ ·)
  | [], _ => by simp [insI]
  | j :: r, h => by
    unfold insI
    obtain ⟨first, rest⟩ := List.pairwise_cons.mp h
    by_cases e : i ≤ j
    · rw [decide_eq_true e]
      exact List.pairwise_cons.mpr ⟨fun a ha => (List.mem_cons.mp ha).elim (fun q => q ▸ e) fun q => Int.le_trans e (first a q), h⟩
    · rw [decide_eq_false e]
      refine List.pairwise_cons.mpr ⟨fun a ha => ?_, insI_sorted i rest⟩
      exact (List.mem_cons.mp ((insI_perm i r).mem_iff.mp ha)).elim (fun q => by rw [q]; omega) (first a)
theorem srtI_sorted : ∀ l, (srtI l).Pairwise (· ≤ ·)
  | [] => List.Pairwise.nil
  | i :: r => insI_sorted i (srtI_sorted r)
theorem sorted_uniq {l l' : List Int} (p : l.Perm l') (h : l.Pairwise (· ≤ ·)) (h' : l'.Pairwise (· ≤ ·)) : l = l' := p.eq_of_pairwise (fun a b _ _ h1 h2 => Int.le_antisymm h1 h2) h h'
def intsK : List (IV × IV) → Option (List Int)
  | [] => some []
  | (.int i, _) :: r => (match intsK r with
    | some l => some (i :: l)
    | none => none)
  | _ => none
def ivSorted (is : List IV) (h : IHeap) : Res IV := match is with
  | [.ref i] => (match h.items i with
    | some xs => (match intsOf xs with
      | some ns => .ok (.ref h.n) (h.add (.lst ((srtI ns).map .int)))
      | none => .bad)
    | none => (match dctOf (.ref i) h with
      | some (false, kvs) => (match intsK kvs with
        | some ns => cond (Nat.blt ns.length 64) (.ok (.ref h.n) (h.add (.lst ((srtI ns).map .int)))) .bad
        | none => .bad)
      | _ => .bad))
  | _ => .bad
theorem rv_ints : ∀ ns : List Int, RVs T ι H (ns.map IV.int) (ns.map L2.V.int)
  | [] => .nil
  | i :: r => .cons (.int i) (rv_ints r)
theorem intsK_ok : ∀ {kvs : List (IV × IV)} {ks : List (Key × L2.V)} {ns : List Int}, Paired (fun (kv : IV × IV) (q : Key × L2.V) => kv.1 = keyIV q.1 ∧ RV T ι H kv.2 q.2) kvs ks → intsK kvs = some ns → ks.map (·.1) = ns.map Sum.inl
  | [], _, _, .nil, e => by cases e; rfl
  | (k, v) :: kvs, (q, w) :: ks, ns, .cons ⟨e1, _⟩ t, e => by
    cases q with
    | inr x => cases e1; cases e
    | inl i =>
      cases e1
      have e : (match intsK kvs with
        | some l => some (i :: l)
        | none => none) = some ns := e
      split at e
      · rename_i l hl
        cases e
        show Sum.inl i :: ks.map (·.1) = _
        rw [intsK_ok t hl]; rfl
      · cases e
theorem cs_sorted (B : Bd T X p d) : CallS T X (.builtin "sorted") ivSorted := by
  intro W tk pins s σ H xs us Q ι hp is I rv R r P
  unfold ivSorted at P
  split at P
  · rename_i i
    split at P
    · rename_i ys hy
      split at P
      · rename_i ns hn
        obtain ⟨V, rfl, rV⟩ := r.one
        obtain ⟨a, vs, rfl, _, h, r2⟩ := R.seq hy rV
        have := intsOf_rv r2 hn
        subst this
        refine cr_sortedI pins s σ H _ us Q I rv ⟨a, ns, rfl, B.K ▸ h, fun ns' q hp1 hp2 hq => ?_⟩
        rw [sorted_uniq (hp1.trans (srtI_perm ns).symm) hp2 (srtI_sorted ns)]
        exact DV.lst P R (rv_ints _) q hq
      · exact P.elim
    · split at P
      · rename_i kvs hd
        split at P
        · rename_i ns hn
          cases hb : Nat.blt ns.length 64 with
          | false => rw [hb] at P; exact P.elim
          | true =>
            rw [hb] at P
            obtain ⟨V, rfl, rV⟩ := r.one
            obtain ⟨a, rfl, ks, h1, h2⟩ := dctOf_at B I R rV hd
            refine call_sortedDI B.calm pins s σ H _ us Q I rv ⟨a, ks, ns, rfl, h1, intsK_ok h2 hn, Nat.le_of_ble_eq_true hb, fun ns' q hp1 hp2 hq => ?_⟩
            rw [sorted_uniq (hp1.trans (srtI_perm ns).symm) hp2 (srtI_sorted ns)]
            exact DV.lst P R (rv_ints _) q hq
        · exact P.elim
      · exact P.elim
  · exact P.elim
end
end SV
set_option maxHeartbeats 3999999
namespace SV
open PySem PySem.Spec
open PyProof.Rows L2

/-! ### names by number -/
def nmOf (L : List Str) (i : Nat) : Str := match L[i]? with
  | some x => x
  | none => ⟨#[2000000 + i]⟩
/-- every name of the list begins with a sign that text can have -/
def nmLow (L : List Str) : Bool := L.all fun x => match x.cps.toList with
  | c :: _ => Nat.blt c 2000000
  | [] => false
theorem nmOf_inj {L : List Str} (nd : L.Nodup) (lo : nmLow L = true) : ∀ i j, nmOf L i = nmOf L j → i = j := by
  have low : ∀ i x, L[i]? = some x → ∀ k, x ≠ (⟨#[2000000 + k]⟩ : Str) := fun i x e k q => by
    have := List.all_eq_true.mp lo x (List.mem_of_getElem? e)
    rw [q] at this
    have := Nat.le_of_ble_eq_true (show Nat.ble (2000000 + k + 1) 2000000 = true from this)
    omega
  intro i j e
  unfold nmOf at e
  cases hi : L[i]? with
  | none =>
    rw [hi] at e
    cases hj : L[j]? with
    | none => rw [hj] at e; simpa using e
    | some y => rw [hj] at e; exact absurd e.symm (low j y hj i)
  | some x =>
    rw [hi] at e
    cases hj : L[j]? with
    | none => rw [hj] at e; exact absurd e (low i x hi j)
    | some y =>
      rw [hj] at e
      have e : x = y := e
      exact (List.getElem?_inj (List.getElem?_eq_some_iff.mp hi).1 nd).mp (hi.trans ((congrArg some e).trans hj.symm))
/-! ### what classes have, by a table -/
def attOf (L : List (Nat × Nat × Att)) (c m : Nat) : Att := match L with
  | [] => .no
  | (c', m', a) :: r => cond (Nat.beq c' c && Nat.beq m' m) a (attOf r c m)
theorem attOf_ok {T : Tab} : ∀ {L : List (Nat × Nat × Att)}, (∀ q ∈ L, AttOk T (T.ca q.1) (T.nm q.2.1) q.2.2) → ∀ c m, AttOk T (T.ca c) (T.nm m) (attOf L c m)
  | [], _, _, _ => trivial
  | (c', m', a) :: r, h, c, m => by
    unfold attOf
    cases q : Nat.beq c' c && Nat.beq m' m with
    | true =>
      rw [Bool.and_eq_true_iff] at q
      have e1 := Nat.eq_of_beq_eq_true q.1
      have e2 := Nat.eq_of_beq_eq_true q.2
      subst e1 e2
      exact h _ List.mem_cons_self
    | false => exact attOf_ok (fun p hp => h p (List.mem_cons_of_mem _ hp)) c m
def look1 {α : Type} (L : List (Nat × α)) (c : Nat) : Option α := match L with
  | [] => none
  | (c', a) :: r => cond (Nat.beq c' c) (some a) (look1 r c)
theorem look1_ok {α : Type} {R : Nat → α → Prop} : ∀ {L : List (Nat × α)}, (∀ q ∈ L, R q.1 q.2) → ∀ c a, look1 L c = some a → R c a
  | [], _, _, _, e => by cases e
  | (c', a') :: r, h, c, a, e => by
    unfold look1 at e
    cases q : Nat.beq c' c with
    | true =>
      rw [q] at e
      cases e
      have := Nat.eq_of_beq_eq_true q
      subst this
      exact h _ List.mem_cons_self
    | false => rw [q] at e; exact look1_ok (fun p hp => h p (List.mem_cons_of_mem _ hp)) c a e
def look2 {α : Type} (L : List (Nat × Nat × α)) (c m : Nat) : Option α := match L with
  | [] => none
  | (c', m', a) :: r => cond (Nat.beq c' c && Nat.beq m' m) (some a) (look2 r c m)
theorem look2_ok {α : Type} {R : Nat → Nat → α → Prop} : ∀ {L : List (Nat × Nat × α)}, (∀ q ∈ L, R q.1 q.2.1 q.2.2) → ∀ c m a, look2 L c m = some a → R c m a
  | [], _, _, _, _, e => by cases e
  | (c', m', a') :: r, h, c, m, a, e => by
    unfold look2 at e
    cases q : Nat.beq c' c && Nat.beq m' m with
    | true =>
      rw [q] at e
      cases e
      rw [Bool.and_eq_true_iff] at q
      have e1 := Nat.eq_of_beq_eq_true q.1
      have e2 := Nat.eq_of_beq_eq_true q.2
      subst e1 e2
      exact h _ List.mem_cons_self
    | false => rw [q] at e; exact look2_ok (fun p hp => h p (List.mem_cons_of_mem _ hp)) c m a e

/-! ### all that does not hang on the depth -/
structure Glo (T : Tab) (P : Program) (w : World) (mg : Str → Option Value) (base : Heap) (p : Pg) : Prop where
  att : ∀ c m, AttOk T (T.ca c) (T.nm m) (p.att c m)
  ini : ∀ c f, p.ini c = some f → Mk T.K (T.ca c) (T.fa f)
  isi : ∀ a b r, p.isi a b = some r → PySem.W.kitOne T.K (tyc T a) (tyc T b) = some r
  kio : ∀ c, p.kio c = true → OwnK T.K (T.ca c)
  nf : ∀ c t, p.nf c t = true → PySem.W.notFirst T.K (T.ca c) (tyc T t) = true
  exm : ∀ a b r, p.exm a b = some r → PySem.W.exmOne T.K (T.xc a) (.ref (T.ca b)) = some r
  kd : ∀ k, p.kd k ≠ [] → KdOk T.K w (T.kd k) (p.kd k)
  hP : P = T.P
  hw : w = T.w
section
variable {T : Tab} {P : Program} {w : World} {mg : Str → Option Value} {base : Heap} {p : Pg} {d : Nat}
/-- the body of a def at depth d + 1 -/
theorem Glo.bd (G : Glo T P w mg base p) (fk : ∀ j, FnK T P w mg base (5 * d) (T.fa (p.pat j).1) (p.pat j).2 (p.ck j)) (fn : ∀ f, FnS T P w mg base (5 * d) (T.fa f) (p.cl f)) {N : List Str} {qual : Str} {sc : Scope} {f : Addr} {cdv : Value} {A : Around} {outer : List Env} {s : Shared} {H : Hp} {E : XK} (nd : N.Nodup)
    (r : Room (5 * d + 4) (A.deeper (envOfC qual sc s.heap.objs.size f cdv))) : Bd T (cxOf (L2.CX P w) P w T.K mg base N qual sc f cdv A outer s H E) p d :=
  ⟨rfl, rfl, r.mono (by omega), nd, fn, G.att, G.ini, G.isi, G.kio, G.nf, G.exm, G.kd, fk, G.hP, G.hw, by have := r.un; show (A.deeper (envOfC qual sc s.heap.objs.size f cdv)).units + 80 < cLine; omega⟩
/-- nothing is promised of a def that is not looked at -/
theorem fnS_none {k : Nat} {f : Addr} : FnS T P w mg base k f (fun _ _ => .bad) := by
  intro A outer s H us vs Q E hr e0 rv h
  obtain ⟨_, _, _, _, _, q⟩ := h
  exact q.elim
/-- one def more -/
theorem fnS_of {x qual : Str} {st : Stmt} {f : Addr} {fd : FuncData} {N ps : List Str} {b : EvS} (F : Fun T.K x qual st f fd) (S : FnScope N ps (defScope st)) (hb : Binds T.K fd ps [])
    (body : ∀ (cdv : Value) (A : Around) (outer : List Env) (s : Shared) (H : Hp) (E : XK), Room (5 * d + 4) (A.deeper (envOfC qual (defScope st) s.heap.objs.size f cdv)) → SSs T (cxOf (L2.CX P w) P w T.K mg base N qual (defScope st) f cdv A outer s H E) (defBody st) b) :
    FnS T P w mg base (5 * (d + 1)) f (evFn ps.length N.length b) := fn_raw (fn_ok F S body) hb
end
end SV
set_option maxHeartbeats 3999999
namespace SV
open PySem PySem.Spec
open PyProof.Rows L2

section
variable {T : Tab} {X : Cx} {p : Pg} {d : Nat} {a b c : Expr} {pos : Pos} {fa fb fc : Ev}
theorem Bd.u64 (B : Bd T X p d) : X.A.units + 64 < cLine := by have := B.hu; omega
theorem Bd.u65 (B : Bd T X p d) : X.A.units + 65 < cLine := by have := B.hu; omega
/-- a op1 b op2 c as a test -/
theorem st_ch2 {op op' : CmpOp} {g1 g2 : IV → IV → IHeap → Res IV} (ho : OpS T X (compareOp op) g1) (ho' : OpS T X (compareOp op') g2) (ha : SE T X a fa) (hb : SE T X b fb) (hc : SE T X c fc)
    (hm : lastMarks [op, op'] [b, c] = false := by with_unfolding_all rfl) : ST T X (.Compare a [op, op'] [b, c] pos) (etV (evCh2 g1 g2 fa fb fc)) := fun W tk =>
  ⟨fun pins s σ H Q I ⟨ι, hp, σi, R, S, P⟩ => isTrue_chain (ha.go tk I R S (wp_bind (wp_bind P)) fun v s1 ι1 hp1 x V1 H1 I1 R1 e1 S1 r1 rv1 q1 => test_link (hb.go tk I1 R1 S1 (wp_mono (wp_bind q1) (fun _ _ z => z) fun _ _ _ => DX.up e1) fun u s2 ι2 hp2 y V2 H2 I2 R2 e2 S2 r2 rv2 q2 =>
    thn (ho W tk pins s2 σ H2 V1 V2 v u (fun V H' => ∃ ι3 hp3 z, Rel T ι3 hp3 H' ∧ Ext ι2 H2 ι3 H' ∧ RV T ι3 H' z V ∧ (match z with
        | .bl true => (fc σi hp3).bind fun w h4 => g2 y w h4
        | .bl false => .ok (.bl false) hp3
        | _ => .bad : Res IV).wp (fun t h5 => (isB t h5).wp (fun bb h6 => ∀ ι' H', Rel T ι' h6 H' → Ext ι H ι' H' → Q bb H') (DX T ι H W σ)) (DX T ι H W σ)) ι2 hp2 x y I2 rv1 rv2 R2 (r1.up e2) r2
      (wp_mono (wp_bind q2) (fun z h3 q3 ι3 H3 V3 R3 e3 r3 => ⟨ι3, h3, z, R3, e3, r3, q3⟩) fun _ _ _ => DX.up (e1.trans e2))) fun w s3 ⟨V3, H3, I3, rv3, ι3, hp3, z, R3, e3, r3, q3⟩ => by
        have e03 := (e1.trans e2).trans e3
        split at q3
        · cases r3
          cases rv3
          refine wpAny_truthy_bool (ite_tt (test_last (hc.go tk I3 R3 (S.up e03) (wp_mono (wp_bind q3) (fun _ _ z => z) fun _ _ _ => DX.up e03) fun w' s4 ι4 hp4 x4 V4 H4 I4 R4 e4 S4 r4 rv4 q4 => ?_)))
          refine thn (ho' W tk pins s4 σ H4 V2 V4 u w' (fun V H' => ∃ bb, V = .bl bb ∧ Q bb H') ι4 hp4 y x4 I4 rv2 rv4 R4 (r2.up (e3.trans e4)) r4 (wp_mono q4 (fun t h5 q5 ι5 H5 V5 R5 e5 r5 => ?_) fun _ _ _ => DX.up (e03.trans e4))) fun w5 s5 ⟨V5, H5, I5, rv5, bb, ev, q6⟩ => ?_
          · obtain ⟨bb, rfl, q6⟩ := isB_wp q5
            cases r5
            exact ⟨bb, rfl, q6 ι5 H5 R5 ((e03.trans e4).trans e5)⟩
          · subst ev
            cases rv5
            exact wpAny_truthy_bool ⟨H5, I5, q6⟩
        · cases r3
          cases rv3
          exact wpAny_truthy_bool (ite_ff ⟨H3, I3, q3 ι3 H3 R3 e03⟩)
        · exact q3.elim)) hm⟩
end
/-- a def's own context lets out what leaves it -/
theorem own_passes {CX : CXT} {P : Program} {w : World} {K : PySem.W.Frag} {mg : Str → Option Value} {base : Heap} {N : List Str} {qual : Str} {scope : Scope} {f : Addr} {cd : Value} {A : Around} {outer : List Env} {s : Shared} {H : Hp} {E : XK} :
    PassesOwn (model (cxOf CX P w K mg base N qual scope f cd A outer s H E).prog (cxOf CX P w K mg base N qual scope f cd A outer s H E).w) (cxOf CX P w K mg base N qual scope f cd A outer s H E).A (cxOf CX P w K mg base N qual scope f cd A outer s H E).env (cxOf CX P w K mg base N qual scope f cd A outer s H E).xe := passes_of rfl
end SV
set_option maxHeartbeats 3999999
namespace SV
open PySem PySem.Spec
open PyProof.Rows L2

/-! ### built-in names, by the name -/
theorem bt_int : bootBuiltins "int" = some (.type "int") := by decide +kernel
theorem bt_str : bootBuiltins "str" = some (.type "str") := by decide +kernel
theorem bt_bool : bootBuiltins "bool" = some (.type "bool") := by decide +kernel
theorem bt_list : bootBuiltins "list" = some (.type "list") := by decide +kernel
theorem bt_tuple : bootBuiltins "tuple" = some (.type "tuple") := by decide +kernel
theorem bt_dict : bootBuiltins "dict" = some (.type "dict") := by decide +kernel
theorem bt_len : bootBuiltins "len" = some (.builtin "len") := by decide +kernel
theorem bt_sum : bootBuiltins "sum" = some (.builtin "sum") := by decide +kernel
theorem bt_all : bootBuiltins "all" = some (.builtin "all") := by decide +kernel
theorem bt_any : bootBuiltins "any" = some (.builtin "any") := by decide +kernel
theorem bt_min : bootBuiltins "min" = some (.builtin "min") := by decide +kernel
theorem bt_max : bootBuiltins "max" = some (.builtin "max") := by decide +kernel
theorem bt_sorted : bootBuiltins "sorted" = some (.builtin "sorted") := by decide +kernel
theorem bt_isinstance : bootBuiltins "isinstance" = some (.builtin "isinstance") := by decide +kernel

/-! ### what a module's name holds -/
def GlV (T : Tab) (mg : Str → Option Value) (x : Str) (v : IV) : Prop := ∃ V u, mg x = some u ∧ RelV V u ∧ ∀ ι H, RV T ι H v V
/-- a tuple of texts -/
def GlI (T : Tab) (mg : Str → Option Value) (x : Str) (ys : List Str) : Prop := ∃ a, mg x = some (.ref a) ∧ (∃ ob, T.K.lookup a = some ob ∧ ob.cls = .type "tuple" ∧ ob.dict = none) ∧ ∀ H, SqT T.K H a (ys.map V.str)

def esPar2 (i j : Nat) (f : EvA) : EvS := fun σ h => (f σ h).st σ fun vs h1 => match vs with
  | [v, w] => .nx ((σ.set i (some v)).set j (some w)) h1
  | _ => .bad
def esPar3 (i j l : Nat) (f : EvA) : EvS := fun σ h => (f σ h).st σ fun vs h1 => match vs with
  | [u, v, w] => .nx (((σ.set i (some u)).set j (some v)).set l (some w)) h1
  | _ => .bad
section
variable {T : Tab} {X : Cx} {p : Pg} {d : Nat} {a b c : Expr} {pos : Pos}
theorem se_glE {x : Str} {v : IV} (hg : Gl X x) (h : GlV T X.mg x v) (hd : (x == ("__debug__" : Str)) = false := by decide) : SE T X (.Name x pos) (evC v) := by
  obtain ⟨V, u, h1, h2, h3⟩ := h
  exact se_gl hg h1 h2 h3 hd
/-- a built-in type as a value -/
theorem se_ty {x : Str} (t : Nat) (hg : Gl X x) (hm : X.mg x = none) (hv : bootBuiltins x = some (.type (tagN t))) (hn : x ≠ "__name__" := by decide) (hd : (x == ("__debug__" : Str)) = false := by decide) : SE T X (.Name x pos) (evC (.ty t)) :=
  se_bt (V := .ty (tagN t)) hg hm hv rfl (fun _ _ => .ty t) hn hd
/-- a class, a def of the module as a value -/
theorem se_cl {x : Str} (c : Nat) (hg : Gl X x) (hm : X.mg x = some (.ref (T.ca c))) (hd : (x == ("__debug__" : Str)) = false := by decide) : SE T X (.Name x pos) (evC (.cls c)) := se_gl (V := .ref (T.ca c)) hg hm rfl (fun _ _ => .cls c) hd
theorem se_fn {x : Str} (f : Nat) (hg : Gl X x) (hm : X.mg x = some (.ref (T.fa f))) (hd : (x == ("__debug__" : Str)) = false := by decide) : SE T X (.Name x pos) (evC (.fn f)) := se_gl (V := .ref (T.fa f)) hg hm rfl (fun _ _ => .fn f) hd
theorem se_kidxE {x : Str} {e : Expr} {es : List Expr} {q apos cpos : Pos} {fa : EvA} {ys : List Str} (B : Bd T X p d) (hg : Gl X x) (h : GlI T X.mg x ys) (ha : SA T X (e :: es) fa) (hd : (x == ("__debug__" : Str)) = false := by decide)
    (hbase : attributeBase (.Name x q) "index" X.env (eval (.Name x q) X.env) = eval (.Name x q) X.env := by rfl)
    (hfew : Few X cpos (e :: es) := by rfl) (hline : OneLine apos cpos := by rfl) (hs : Arg1 X e es := by rfl) (hplain : NoStar X cpos es := by rfl) :
    SE T X (.Call (.Attribute (.Name x q) "index" apos) (e :: es) [] cpos) (evKI ys fa) := by
  obtain ⟨a, h1, h2, h3⟩ := h
  exact se_kidx ys B (pe_glob hg h1 rfl hd) h2 h3 ha PySem.F.plainAttrs_tuple PySem.F.slot_tuple_index (PySem.F.type_tuple_index) hbase hfew hline hs hplain
theorem ss_par2 {x y : Str} {px py pt : Pos} {kt k2 pt2} {f : EvA} (i j : Nat) (B : Bd T X p d) (ha : SA T X [a, b] f) (hi : X.N[i]? = some x := by rfl) (hj : X.N[j]? = some y := by rfl) (hij : i ≠ j := by decide)
    (hx : X.env.scope.names.lookup x = some .local := by rfl) (hy : X.env.scope.names.lookup y = some .local := by rfl)
    (hw : swappedStores [.Tuple [.Name x px, .Name y py] kt pt] (.Tuple [a, b] k2 pt2) X.env = pure (some [x, y]) := by rfl)
    (hs : swapsWithSole [.Tuple [.Name x px, .Name y py] kt pt] (.Tuple [a, b] k2 pt2) pos.line X.env = pure false := by rfl) : SS T X (.Assign [.Tuple [.Name x px, .Name y py] kt pt] (.Tuple [a, b] k2 pt2) pos) (esPar2 i j f) := fun W tk =>
  (ps_par B.calm B.nd hi hj hij hx hy (ha W tk) hw hs).imp fun D σ H ⟨ι, hp, σi, R, S, P⟩ => ⟨ι, hp, σi, R, S, wp_mono (st_wp P) (fun vs h q ι' H' Vs R' e' r' => by
    split at q
    · cases r' with
      | cons r1 r' => cases r' with
        | cons r2 r' => cases r'; exact ⟨_, _, rfl, q ι' H' _ R' e' (((S.up e').set r1 i).set r2 j)⟩
    · exact q.elim) fun _ _ _ z => DXs.one S z⟩
theorem ss_par3 {x y z : Str} {px py pz pt : Pos} {kt k2 pt2} {f : EvA} (i j l : Nat) (B : Bd T X p d) (ha : SA T X [a, b, c] f) (hi : X.N[i]? = some x := by rfl) (hj : X.N[j]? = some y := by rfl) (hl : X.N[l]? = some z := by rfl) (hij : i ≠ j := by decide) (hil : i ≠ l := by decide) (hjl : j ≠ l := by decide)
    (hx : X.env.scope.names.lookup x = some .local := by rfl) (hy : X.env.scope.names.lookup y = some .local := by rfl) (hz : X.env.scope.names.lookup z = some .local := by rfl)
    (hw : swappedStores [.Tuple [.Name x px, .Name y py, .Name z pz] kt pt] (.Tuple [a, b, c] k2 pt2) X.env = pure (some [x, y, z]) := by rfl)
    (hs : swapsWithSole [.Tuple [.Name x px, .Name y py, .Name z pz] kt pt] (.Tuple [a, b, c] k2 pt2) pos.line X.env = pure false := by rfl) : SS T X (.Assign [.Tuple [.Name x px, .Name y py, .Name z pz] kt pt] (.Tuple [a, b, c] k2 pt2) pos) (esPar3 i j l f) := fun W tk =>
  (ps_par3 B.calm B.nd hi hj hl hij hil hjl hx hy hz (ha W tk) hw hs).imp fun D σ H ⟨ι, hp, σi, R, S, P⟩ => ⟨ι, hp, σi, R, S, wp_mono (st_wp P) (fun vs h q ι' H' Vs R' e' r' => by
    split at q
    · cases r' with
      | cons r1 r' => cases r' with
        | cons r2 r' => cases r' with
          | cons r3 r' => cases r'; exact ⟨_, _, _, rfl, q ι' H' _ R' e' ((((S.up e').set r1 i).set r2 j).set r3 l)⟩
    · exact q.elim) fun _ _ _ z => DXs.one S z⟩
section
variable {o e : Expr} {es : List Expr} {apos cpos : Pos} {fo : Ev} {fa : EvA}
theorem se_append (B : Bd T X p d) (ho : SE T X o fo) (ha : SA T X (e :: es) fa) (hbase : attributeBase o "append" X.env (eval o X.env) = eval o X.env := by rfl) (hfew : Few X cpos (e :: es) := by rfl) (hline : OneLine apos cpos := by rfl) (hs : Arg1 X e es := by rfl) (hplain : NoStar X cpos es := by rfl) :
    SE T X (.Call (.Attribute o "append" apos) (e :: es) [] cpos) (evM isLst lsAppend fo fa) := se_bm B.K ty_lst PySem.F.plainAttrs_list PySem.F.slot_list_append PySem.F.type_list_append ms_append ho ha hbase hfew hline hs hplain
theorem se_pop (B : Bd T X p d) (ho : SE T X o fo) (ha : SA T X (e :: es) fa) (hbase : attributeBase o "pop" X.env (eval o X.env) = eval o X.env := by rfl) (hfew : Few X cpos (e :: es) := by rfl) (hline : OneLine apos cpos := by rfl) (hs : Arg1 X e es := by rfl) (hplain : NoStar X cpos es := by rfl) :
    SE T X (.Call (.Attribute o "pop" apos) (e :: es) [] cpos) (evM isLst lsPop fo fa) := se_bm B.K ty_lst PySem.F.plainAttrs_list PySem.F.slot_list_pop PySem.F.type_list_pop ms_pop ho ha hbase hfew hline hs hplain
theorem se_insert (B : Bd T X p d) (ho : SE T X o fo) (ha : SA T X (e :: es) fa) (hbase : attributeBase o "insert" X.env (eval o X.env) = eval o X.env := by rfl) (hfew : Few X cpos (e :: es) := by rfl) (hline : OneLine apos cpos := by rfl) (hs : Arg1 X e es := by rfl) (hplain : NoStar X cpos es := by rfl) :
    SE T X (.Call (.Attribute o "insert" apos) (e :: es) [] cpos) (evM isLst lsInsert fo fa) := se_bm B.K ty_lst PySem.F.plainAttrs_list PySem.F.slot_list_insert PySem.F.type_list_insert ms_insert ho ha hbase hfew hline hs hplain
end
end
end SV
set_option maxHeartbeats 3999999
namespace SV
open PySem PySem.Spec
open PyProof.Rows L2

/-! ### calls with keywords, and with fewer values than parameters -/
def SKw (T : Tab) (X : Cx) (kws : List Keyword) (f : EvA) : Prop := ∀ W, Takes X W → PK X kws (tA T W f)
/-- what the library's rule asks of keywords, named -/
abbrev KwAll (X : Cx) (pos : Pos) (kws : List Keyword) : Prop := (backToKw pos (keywordEach kws X.env)).all (fun x => x.1.isSome) = true
abbrev KwNames (X : Cx) (pos : Pos) (kws : List Keyword) (ks : List Str) : Prop := (backToKw pos (keywordEach kws X.env)).filterMap (fun x => x.1) = ks
abbrev KwPlain (X : Cx) (pos : Pos) (e : Expr) (es : List Expr) (kws : List Keyword) : Prop :=
  ((backTo pos (starEach (e :: es) X.env)).any (fun x => x.1) || (backToKw pos (keywordEach kws X.env)).any (fun x => x.1.isNone)) = false
def evK (g : List IV → List IV → IHeap → Res IV) (fa fk : EvA) : Ev := fun σ h => (fa σ h).bind fun xs h1 => (fk σ h1).bind fun ys h2 => g xs ys h2
section
variable {T : Tab} {X : Cx} {p : Pg} {d : Nat} {W : WX} {pins : List (Addr × Obj)} {s : Shared} {σ : Sl} {σi : ISt} {ι : List Addr} {hp : IHeap} {H : Hp} {Q : VK} {o e : Expr} {es : List Expr} {kws : List Keyword} {fo fa : Ev} {fs fk : EvA} {ks : List Str}
theorem sk_n : SKw T X [] eaN := fun W tk => ⟨fun pos pins s σ H Q I ⟨ι, hp, σi, R, S, P⟩ => pk_nil.run pos pins s σ H Q I (P ι H [] R .refl .nil)⟩
theorem sk_c {nm : Option Str} {kpos : Pos} (ha : SE T X e fa) (hr : SKw T X kws fs) : SKw T X (⟨nm, e, kpos⟩ :: kws) (eaC fa fs) := fun W tk =>
  ⟨fun pos pins s σ H Q I ⟨ι, hp, σi, R, S, P⟩ => (pk_cons (ha W tk) (hr W tk)).run pos pins s σ H Q I ⟨ι, hp, σi, R, S, wp_mono (wp_bind P) (fun x h q ι1 H1 V1 R1 e1 r1 =>
    ⟨ι1, h, σi, R1, S.up e1, wp_mono (wp_bind q) (fun xs h2 q2 ι2 H2 Vs R2 e2 r2 => q2 ι2 H2 _ R2 (e1.trans e2) (.cons (r1.up e2) r2)) fun _ _ _ => DX.up e1⟩) fun _ _ _ z => z⟩⟩
theorem SKw.go {f : EvA} {pos : Pos} (h : SKw T X kws f) (tk : Takes X W) (I : Inv X pins σ H s) (R : Rel T ι hp H) (S : RSt T ι H σi σ) {k : List IV → IHeap → Prop}
    (P : (f σi hp).wp k (DX T ι H W σ)) {Qf : List Value → Shared → Prop} (cont : ∀ us s1 ι1 hp1 xs Vs H1, Inv X pins σ H1 s1 → Rel T ι1 hp1 H1 → Ext ι H ι1 H1 → RSt T ι1 H1 σi σ → RVs T ι1 H1 xs Vs → Vals Vs us → k xs hp1 → Qf us s1) :
    wpAny (model X.prog X.w) X.A (evalAll ((backToKw pos (keywordEach kws X.env)).map (·.2))) Qf X.xe s :=
  thn ((h W tk).run pos pins s σ H (fun Vs H1 => ∃ ι1 hp1 xs, Rel T ι1 hp1 H1 ∧ Ext ι H ι1 H1 ∧ RVs T ι1 H1 xs Vs ∧ k xs hp1) I ⟨ι, hp, σi, R, S, wp_mono P (fun a h q ι' H' V R' e' r => ⟨ι', h, a, R', e', r, q⟩) fun _ _ _ z => z⟩)
    fun us s1 ⟨Vs, H1, I1, rv, ι1, hp1, xs, R1, e1, r1, q1⟩ => cont us s1 ι1 hp1 xs Vs H1 I1 R1 e1 (S.up e1) r1 rv q1
theorem run_k {f : Addr} {g : List IV → List IV → IHeap → Res IV} {k : Nat} {xs ys : List IV} {vs zs : List V} {us ws : List Value} (hK : X.K = T.K) (F : FnK T X.prog X.w X.mg X.base k f ks g) (hr : Room k X.A) (tk : Takes X W) (I : Inv X pins σ H s) (R : Rel T ι hp H)
    (rv : RVs T ι H xs vs) (rz : RVs T ι H ys zs) (r : Vals vs us) (r' : Vals zs ws) (hl : zs.length = ks.length) (P : (g xs ys hp).wp (DV T ι H Q) (DX T ι H W σ)) :
    wpAny (model X.prog X.w) X.A (call (.ref f) us (ks.zip ws)) (EP X pins σ Q) X.xe s := by
  refine wpAny_call (codeAny_mono (F X.A X.stack s H us ws vs zs Q (fun c d' H' => W c d' σ H') hr (hK ▸ I.env0) r r' hl ⟨ι, hp, xs, ys, R, rv, rz, P⟩) fun r s' hq => ?_)
  cases r with
  | error e => exact tk e s' (XE.of_call I (fun _ _ _ h => h) hq)
  | ok fl => cases fl with
    | ret u => exact I.after hq
    | _ => exact False.elim hq
/-- only as many values as names -/
def evKn (n : Nat) (g : List IV → List IV → IHeap → Res IV) : List IV → List IV → IHeap → Res IV := fun xs ys h => cond (Nat.beq ys.length n) (g xs ys h) .bad
/-- x(e, .., k = v, ..), and x(e, ..) with defaults -/
theorem se_callK {x : Str} {q pos : Pos} (f j : Nat) (hpat : p.pat j = (f, ks)) (B : Bd T X p d) (hg : Gl X x) (hm : X.mg x = some (.ref (T.fa f))) (hk : PySem.W.keepIn T.K (.ref (T.fa f)) = true) (ha : SA T X (e :: es) fs) (hkw : SKw T X kws fk)
    (hall : KwAll X pos kws := by rfl) (hks : KwNames X pos kws ks := by rfl)
    (hdb : (x == ("__debug__" : Str)) = false := by decide) (he : Arg1 X e es := by rfl)
    (hpl : KwPlain X pos e es kws := by rfl) :
    SE T X (.Call (.Name x q) (e :: es) kws pos) (evK (evKn ks.length (p.ck j)) fs fk) := fun W tk =>
  ⟨fun pins s σ H Q I ⟨ι, hp, σi, R, S, P⟩ => wpAny_Call_Name_kw (ld_glob I hg hm (PySem.W.callWith_KW (h₀ := X.base) I.ok.mod.kin (B.K ▸ hk) hall (ha.go tk I R S (wp_bind P) fun us s1 ι1 hp1 xs Vs H1 I1 R1 e1 S1 r1 rv1 q1 =>
    hkw.go tk I1 R1 S1 (wp_mono (wp_bind q1) (fun _ _ z => z) fun _ _ _ => DX.up e1) fun ws s2 ι2 hp2 ys Zs H2 I2 R2 e2 S2 r2 rv2 q2 => ⟨I2.kIn, by
      rw [hks]
      have F := B.fk j
      rw [hpat] at F
      have e12 := e1.trans e2
      unfold evKn at q2
      cases hc : Nat.beq ys.length ks.length with
      | false => rw [hc] at q2; exact q2.elim
      | true =>
        rw [hc] at q2
        exact run_k B.K F (B.room.mono (Nat.le_succ _)) tk I2 R2 (r1.up e2) r2 rv1 rv2 (r2.length.symm.trans (Nat.eq_of_beq_eq_true hc)) (wp_mono q2 (fun _ _ => DV.up e12) fun _ _ _ => DX.up e12)⟩) hpl he) hdb)⟩
end
end SV
namespace SV
open PySem PySem.Spec
open PyProof.Rows L2
section
variable {T : Tab} {X : Cx} {p : Pg} {d : Nat} {o e : Expr} {es : List Expr} {kws : List Keyword} {fo : Ev} {fs fk : EvA} {ks : List Str}
/-- o.m(e, .., k = v, ..): js tells the way to call for the def that is found -/
def evMk (p : Pg) (m : Nat) (js : List (Nat × Nat)) (n : Nat) (fo : Ev) (fa fk : EvA) : Ev := fun σ h => (fo σ h).bind fun x h1 => match mthOf p m x h1 with
  | some g => (match look1 js g with
    | some j => (fa σ h1).bind fun xs h2 => (fk σ h2).bind fun ys h3 => evKn n (p.ck j) (x :: xs) ys h3
    | none => .bad)
  | none => .bad
theorem se_meK {pl : Sem Bool} {x : Str} {apos pos : Pos} (m : Nat) (js : List (Nat × Nat)) (hjs : ∀ q ∈ js, p.pat q.2 = (q.1, ks)) (B : Bd T X p d) (ho : SE T X o fo) (ha : SA T X (e :: es) fs) (hkw : SKw T X kws fk) (hx : x = T.nm m := by rfl)
    (hall : KwAll X pos kws := by rfl) (hks : KwNames X pos kws ks := by rfl) (he : Arg1 X e es := by rfl)
    (hpl : KwPlain X pos e es kws := by rfl)
    (ht : eval (.Call (.Attribute o x apos) (e :: es) kws pos) X.env = (do
      let ov ← eval o X.env
      standAt apos.atName
      let (f, first) ← holding [ov] (getMethod ov x pl)
      callWith pos f first (backTo pos (starEach (e :: es) X.env)) (backToKw pos (keywordEach kws X.env))) := by rfl) : SE T X (.Call (.Attribute o x apos) (e :: es) kws pos) (evMk p m js ks.length fo fs fk) := fun W tk =>
  ⟨fun pins s σ H Q I ⟨ι, hp, σi, R, S, P⟩ => PySem.W.methodCall_KW (pl := pl) (ho.go tk I R S (wp_bind P) fun u s1 ι1 hp1 xi V1 H1 I1 R1 e1 S1 r1 rv1 q1 => by
    subst hx
    split at q1
    · rename_i g hg
      split at q1
      · rename_i j hj
        obtain ⟨a, c, dx, gs, rfl, hH, cl, mt, hl⟩ := mthOf_at B R1 r1 hg
        cases rv1
        refine getmeth_ok I1 hH (B.K ▸ cl) (B.K ▸ mt) hl ?_
        refine PySem.W.callWith_KW (first := [.ref a]) (h₀ := X.base) I.ok.mod.kin (B.K ▸ mt.kp) hall (ha.go tk I1 R1 S1 (wp_mono (wp_bind q1) (fun _ _ z => z) fun _ _ _ => DX.up e1) fun us s2 ι2 hp2 xs Vs H2 I2 R2 e2 S2 r2 rv2 q2 =>
          hkw.go tk I2 R2 S2 (wp_mono (wp_bind q2) (fun _ _ z => z) fun _ _ _ => DX.up (e1.trans e2)) fun ws s3 ι3 hp3 ys Zs H3 I3 R3 e3 S3 r3 rv3 q3 => ⟨I3.kIn, ?_⟩) hpl he
        rw [hks]
        have F := B.fk j
        rw [look1_ok (R := fun g j => p.pat j = (g, ks)) hjs g j hj] at F
        have e13 := (e1.trans e2).trans e3
        unfold evKn at q3
        cases hc : Nat.beq ys.length ks.length with
        | false => rw [hc] at q3; exact q3.elim
        | true =>
          rw [hc] at q3
          exact run_k (xs := xi :: xs) (vs := V.ref a :: Vs) (us := Value.ref a :: us) B.K F (B.room.mono (Nat.le_succ _)) tk I3 R3 (.cons (r1.up (e2.trans e3)) (r2.up e3)) r3 (.cons rfl rv2) rv3 (r3.length.symm.trans (Nat.eq_of_beq_eq_true hc)) (wp_mono q3 (fun _ _ => DV.up e13) fun _ _ _ => DX.up e13)
      · exact q1.elim
    · exact q1.elim) ht⟩
end
section
variable {T : Tab} {P : Program} {w : World} {mg : Str → Option Value} {base : Heap}
/-- the values as the parameters want them -/
def evFnK (n m : Nat) (body : EvS) (fill : List IV → List IV → List IV) (np : Nat) : List IV → List IV → IHeap → Res IV := fun xs ys h => cond (Nat.beq xs.length np) (evFn n m body (fill xs ys) h) .bad
theorem fnK_of {k n m np : Nat} {f : Addr} {fd : FuncData} {ps ks : List Str} {b : EvS} {fill : List IV → List IV → List IV} {g : List Value → List Value → List Value} {gV : List V → List V → List V}
    (F : FnOk P w T.K mg base (L2.CX P w) k f fd ps (fun vs H Q E => vs.length = ps.length ∧ spR T (evFn ps.length m b) vs H Q E)) (hb : KBn T.K fd ps np ks g gV)
    (hf : ∀ {ι H xs ys vs zs}, RVs T ι H xs vs → RVs T ι H ys zs → RVs T ι H (fill xs ys) (gV vs zs)) : FnK T P w mg base k f ks (evFnK ps.length m b fill np) := by
  intro A outer s H us ws vs zs Q E hr e0 r r' hl ⟨ι, hp, xs, ys, R, rv, rz, q⟩
  unfold evFnK at q
  cases hc : Nat.beq xs.length np with
  | false => rw [hc] at q; exact q.elim
  | true =>
    rw [hc] at q
    have hn := Nat.eq_of_beq_eq_true hc
    exact F.run A outer s H ⟨us, ks.zip ws⟩ (g us ws) (gV vs zs) Q E hr e0 (hb.to s us ws (e0.mod.kin.keeps fun b o e => (e0.bs b o e).1) (r.length.symm.trans (rv.length.symm.trans hn)) (r'.length.symm.trans hl)) (hb.rel r r')
      ⟨by rw [← (hf rv rz).length]; exact evFn_len q, ι, hp, fill xs ys, R, hf rv rz, q⟩
theorem fnK_none {k : Nat} {f : Addr} {ks : List Str} : FnK T P w mg base k f ks (fun _ _ _ => .bad) := by
  intro A outer s H us ws vs zs Q E hr e0 r r' hl h
  obtain ⟨_, _, _, _, _, _, _, q⟩ := h
  exact q.elim
end
end SV
set_option maxHeartbeats 3999999
namespace SV
open PySem PySem.Spec
open PyProof.Rows L2

/-! ### C.m(o, ..): a def read from its class -/
section
open PySem.W
theorem fn_getN {prog : Program} {w : World} {A : Around} {K : PySem.W.Frag} {s : Shared} {q C : Addr} {R : Result → Shared → Prop} (X : K.In s.heap) (ht : typeIn K (.ref q) = some (.type "function"))
    (h : R (.ok (.ret (.ref q))) s) : codeAny (model prog w) A (.call (.builtin "function.__get__") ⟨[.ref q, .none, .ref C], []⟩) R s := by
  obtain ⟨ob, hob, hcl⟩ := Option.map_eq_some_iff.mp ht
  obtain ⟨h1, h2, h3, h4, h5⟩ := s
  refine codeAny_call_builtin KF.slot_fn.plain KF.entry_fn (KF.slot_fn.check _ _ _ _ _ _ _ _ ⟨ob, X _ _ hob, hcl⟩ (KF.args_fn _ _ _) ?_)
  repeat k_node
  exact h
end
structure CFn (K : PySem.W.Frag) (C : Addr) (mc : Value) (m : Str) (g : Addr) : Prop where
  rd : ClX.CRead K C mc
  at_ : PySem.W.findCls K (.ref C) mc m = some (.val (.ref g))
  ty : PySem.W.typeIn K (.ref g) = some (.type "function")
  kp : PySem.W.keepIn K (.ref g) = true
section
variable {T : Tab} {X : Cx} {p : Pg} {d : Nat} {W : WX} {pins : List (Addr × Obj)} {s : Shared} {σ : Sl} {σi : ISt} {ι : List Addr} {hp : IHeap} {H : Hp} {Q : VK} {o e : Expr} {es : List Expr} {fs : EvA} {C g : Addr} {mc : Value} {m : Str}
theorem getcfn_ok {A : Around} {E : Value → Shared → Prop} {pl : Sem Bool} {Qf : Value × List Value → Shared → Prop} (I : Inv X pins σ H s) (k : CFn X.K C mc m g) (h : ∀ s', Inv X pins σ H s' → Qf (.ref g, []) s') :
    wpAny (model X.prog X.w) A (getMethod (.ref C) m pl) Qf E s :=
  PySem.W.method_cls I.kIn k.rd.ga (PySem.W.cls_value I.kIn k.rd.rd k.at_ rfl (h _ (I.tok _)))
/-- C.m(e, ..), m a def of the class C -/
theorem se_cm {pl : Sem Bool} {x : Str} {q apos pos : Pos} (c f : Nat) (B : Bd T X p d) (hg : Gl X x) (hm : X.mg x = some (.ref (T.ca c))) (hc : ∃ mc, CFn T.K (T.ca c) mc m (T.fa f)) (ha : SA T X (e :: es) fs) (hdb : (x == ("__debug__" : Str)) = false := by decide)
    (hst : Arg1 X e es := by rfl) (hpl : NoStar X pos es := by rfl)
    (ht : eval (.Call (.Attribute (.Name x q) m apos) (e :: es) [] pos) X.env = (do let ov ← eval (.Name x q) X.env; standAt apos.atName; let (f, first) ← holding [ov] (getMethod ov m pl); callWith pos f first (backTo pos (starEach (e :: es) X.env)) (backToKw pos (keywordEach [] X.env))) := by rfl) : SE T X (.Call (.Attribute (.Name x q) m apos) (e :: es) [] pos) (evF (p.cl f) fs) := fun W tk =>
  ⟨fun pins s σ H Q I ⟨ι, hp, σi, R, S, P⟩ => by
    obtain ⟨mc, k⟩ := hc
    refine PySem.W.methodCall_KW (pl := pl) ((se_cl (pos := q) c hg hm hdb).go tk I R S (k := fun v h1 => v = .cls c ∧ h1 = hp) ⟨rfl, rfl⟩ fun u s1 ι1 hp1 xi V1 H1 I1 R1 e1 S1 r1 rv1 q1 => ?_) ht
    obtain ⟨q1, q2⟩ := q1
    subst q1 q2
    cases r1
    cases rv1
    refine getcfn_ok I1 (B.K ▸ k) fun s2 I2 => ?_
    exact PySem.W.callWith_K (first := []) (h₀ := X.base) I2.ok.mod.kin (B.K ▸ k.kp) (ha.go tk I2 R1 S1 (wp_mono (wp_bind P) (fun _ _ z => z) fun _ _ _ => DX.up e1) fun us s3 ι3 hp3 xs Vs H3 I3 R3 e3 S3 r3 rv3 q3 =>
      ⟨I3.kIn, call_s B.K (B.fn f) (B.room.mono (Nat.le_succ _)) W tk pins s3 σ H3 Vs us Q ι3 hp3 xs I3 rv3 R3 r3 (wp_mono q3 (fun _ _ => DV.up (e1.trans e3)) fun _ _ _ => DX.up (e1.trans e3))⟩) hst hpl⟩
end
end SV
set_option maxHeartbeats 3999999
namespace SV
open PySem PySem.Spec
open PyProof.Rows L2

/-! ### list comprehensions of two clauses -/
def lc2L (D : Nat) (nx : Nx) (g : EvG) (ft : EvT) (fi1 : EvI) (g1 : EvG) (ft1 : EvT) (fe : Ev) (σ : ISt) (vs vs1 : List Nat) : Nat → Nat → IHeap → Res IV
  | 0, _, _ => .bad
  | k + 1, i, h => match nx i h with
    | .bad => .bad
    | .stop => .ok (.ref D) h
    | .yld x => match g x (wipI σ vs) h with
      | .nx σ1 h1 => (match ft σ1 h1 with
        | .ok true h2 => (match fi1 σ1 h2 with
          | .ok nx1 h3 => (match lcL D nx1 g1 ft1 fe σ1 vs1 fuel 0 h3 with
            | .ok _ h4 => lc2L D nx g ft fi1 g1 ft1 fe σ vs vs1 k (i + 1) h4
            | _ => .bad)
          | _ => .bad)
        | .ok false h2 => lc2L D nx g ft fi1 g1 ft1 fe σ vs vs1 k (i + 1) h2
        | _ => .bad)
      | _ => .bad
def evLC2 (fi : EvI) (g : EvG) (ft : EvT) (fi1 : EvI) (g1 : EvG) (ft1 : EvT) (fe : Ev) (vs vs1 : List Nat) : Ev := fun σ h => (fi σ h).bind fun nx h1 => lc2L h1.n nx g ft fi1 g1 ft1 fe σ vs vs1 fuel 0 (h1.add (.lst []))
section
variable {T : Tab} {X : Cx} {W : WX} {nx : Nx} {J : It} {g g1 : EvG} {ft ft1 : EvT} {fi fi1 : EvI} {fe : Ev} {vs vs1 : List Nat} {σ : Sl} {σi : ISt} {D : Nat} {Da : Addr} {Q : VK}
abbrev WF : WX := fun _ _ _ _ => False
/-- the inner loop, for what follows it -/
def Inner2 (T : Tab) (fi1 : EvI) (g1 : EvG) (ft1 : EvT) (fe : Ev) (vs1 : List Nat) (Da : Addr) (σ2 : Sl) (H3 : Hp) (Nx : Hp → Prop) : Prop := tI T WF fi1 σ2 H3 fun J1 H4 => ∃ W1 : Nat → Nat → Hp → Prop, (∃ m, W1 0 m H4) ∧ ∀ j k H, W1 j k H →
  (J1.stop j H ∧ Nx H) ∨ (J1.go j H ∧ ∃ Nx1 : Hp → Prop, (∀ H', Nx1 H' → ∃ k', k' < k ∧ W1 (j + 1) k' H') ∧ ∀ x H', J1.yld j H x H' → tGo T g1 vs1 x (wipe σ2 vs1) H' fun σ3 H5 => wipe σ3 vs1 = wipe σ2 vs1 ∧ tT T WF ft1 σ3 H5 fun b H6 =>
    if b = true then tE T WF fe σ3 H6 fun y H7 => ∃ acc, H7 Da = some (.lst acc) ∧ acc.length < sizeLine ∧ Nx1 (upd H7 Da (.lst (acc ++ [y]))) else Nx1 H6)
theorem inner2_of {σ2 : Sl} {σ1 : ISt} {ι : List Addr} {hp : IHeap} {H : Hp} {Nx : Hp → Prop} (R : Rel T ι hp H) (S : RSt T ι H σ1 σ2) (hD : ι[D]? = some Da)
    (P : (match fi1 σ1 hp with
      | .ok nx1 h3 => lcL D nx1 g1 ft1 fe σ1 vs1 fuel 0 h3
      | _ => .bad : Res IV).wp (fun _ h4 => ∀ ι' H', Rel T ι' h4 H' → Ext ι H ι' H' → Nx H') (fun _ _ _ => False)) : Inner2 T fi1 g1 ft1 fe vs1 Da σ2 H Nx := by
  refine ⟨ι, hp, σ1, R, S, ?_⟩
  revert P
  cases fi1 σ1 hp with
  | bad => exact fun q => q.elim
  | err c fs h => exact fun q => q.elim
  | ok nx1 h3 =>
    intro q ι' H' J1 R' e' so
    exact lc_turns (Q := fun _ H => Nx H) (e'.at hD) (S.up e') so h3 R' (wp_mono q (fun _ _ z ι2 H2 _ R2 e2 _ => z ι2 H2 R2 (e'.trans e2)) fun _ _ _ z => z)
theorem lc2_turns {ι0 : List Addr} {H0 : Hp} (hD : ι0[D]? = some Da) (S : RSt T ι0 H0 σi σ) (so : SrcOk T ι0 H0 nx J) (hp0 : IHeap) (R0 : Rel T ι0 hp0 H0)
    (P0 : (lc2L D nx g ft fi1 g1 ft1 fe σi vs vs1 fuel 0 hp0).wp (DV T ι0 H0 Q) (fun _ _ _ => False)) :
    ∃ W : Nat → Nat → Hp → Prop, (∃ m, W 0 m H0) ∧ ∀ i m H, W i m H →
      (J.stop i H ∧ Q (.ref Da) H) ∨ (J.go i H ∧ ∃ Nx : Hp → Prop, (∀ H', Nx H' → ∃ m', m' < m ∧ W (i + 1) m' H') ∧ ∀ x H', J.yld i H x H' → tGo T g vs x (wipe σ vs) H' fun σ2 H2 => wipe σ2 vs = wipe σ vs ∧ tT T WF ft σ2 H2 fun b H3 =>
        if b = true then Inner2 T fi1 g1 ft1 fe vs1 Da σ2 H3 Nx else Nx H3) := by
  refine ⟨fun i m H => ∃ ι' hp', Rel T ι' hp' H ∧ Ext ι0 H0 ι' H ∧ (lc2L D nx g ft fi1 g1 ft1 fe σi vs vs1 m i hp').wp (DV T ι' H Q) (fun _ _ _ => False), ⟨fuel, ι0, hp0, R0, .refl, P0⟩, fun i m H1 ⟨ι1, hp1, R1, e1, P1⟩ => ?_⟩
  cases m with
  | zero => exact P1.elim
  | succ m =>
    unfold lc2L at P1
    cases z : nx i hp1 with
    | bad => rw [z] at P1; exact P1.elim
    | stop => rw [z] at P1; exact .inl ⟨so.stop i ι1 hp1 H1 e1 R1 z, P1 ι1 H1 _ R1 .refl (.ref (e1.at hD))⟩
    | yld x =>
      rw [z] at P1
      simp only at P1
      obtain ⟨hgo, hy⟩ := so.go i ι1 hp1 H1 x e1 R1 z
      refine .inr ⟨hgo, fun H' => ∃ ι' hp', Rel T ι' hp' H' ∧ Ext ι0 H0 ι' H' ∧ (lc2L D nx g ft fi1 g1 ft1 fe σi vs vs1 m (i + 1) hp').wp (DV T ι' H' Q) (fun _ _ _ => False), fun H' h => ⟨m, Nat.lt_succ_self m, h⟩, fun V H2 yd => ?_⟩
      obtain ⟨R2, e2, r2⟩ := hy V H2 yd
      refine ⟨ι1, hp1, wipI σi vs, x, R2, (S.up (e1.trans e2)).wip vs, r2, ?_⟩
      revert P1
      cases g x (wipI σi vs) hp1 with
      | bad => exact fun q => q
      | er c fs σ3 h3 => exact fun q => q
      | nx σ3 h3 =>
        intro q ι3 H3 σ4 R3 e3 S3 ew
        refine ⟨ew.trans (wipe_wipe vs), ι3, h3, σ3, R3, S3, ?_⟩
        have e13 := e2.trans e3
        revert q
        simp only
        cases ft σ3 h3 with
        | bad => exact fun q => q.elim
        | err c fs h4 => exact fun q => q.elim
        | ok b h4 =>
          cases b with
          | false =>
            intro q ι4 H4 R4 e4
            show _
            rw [if_neg (by decide)]
            exact ⟨ι4, h4, R4, (e1.trans e13).trans e4, wp_mono q (fun _ _ => DV.up (e13.trans e4)) fun _ _ _ z => z⟩
          | true =>
            intro q ι4 H4 R4 e4
            rw [if_pos rfl]
            have e14 := (e1.trans e13).trans e4
            refine inner2_of R4 (S3.up e4) (e14.at hD) ?_
            revert q
            simp only
            cases fi1 σ3 h4 with
            | bad => exact fun q => q.elim
            | err c fs h5 => exact fun q => q.elim
            | ok nx1 h5 =>
              simp only
              cases lcL D nx1 g1 ft1 fe σ3 vs1 fuel 0 h5 with
              | bad => exact fun q => q.elim
              | err c fs h6 => exact fun q => q.elim
              | ok v h6 => exact fun q ι5 H5 R5 e5 => ⟨ι5, h6, R5, e14.trans e5, wp_mono q (fun _ _ => DV.up ((e13.trans e4).trans e5)) fun _ _ _ z => z⟩
theorem lc2_wp {Qk : IV → IHeap → Prop} {Qe : Nat → Fs → IHeap → Prop} : ∀ (k i : Nat) (h : IHeap), (lc2L D nx g ft fi1 g1 ft1 fe σi vs vs1 k i h).wp Qk Qe → (lc2L D nx g ft fi1 g1 ft1 fe σi vs vs1 k i h).wp Qk (fun _ _ _ => False)
  | 0, _, _, p => p
  | k + 1, i, h, p => by
    unfold lc2L at p ⊢
    cases z : nx i h with
    | bad => rw [z] at p; exact p
    | stop => rw [z] at p; exact p
    | yld x =>
      rw [z] at p
      simp only at p ⊢
      split at p
      · split at p
        · split at p
          · split at p
            · exact lc2_wp k _ _ p
            · exact p.elim
          · exact p.elim
        · exact lc2_wp k _ _ p
        · exact p.elim
      · exact p.elim
variable {elt tg tg1 iter iter1 : Expr} {ifs ifs1 : List Expr} {scope : Scope} {own : List (Str × Nat)} {pos : Pos}
theorem lc2_imp {H : Hp} (h : tE T W (evLC2 fi g ft fi1 g1 ft1 fe (own.map (·.2)) vs1) σ H Q) : tLc2 (tI T W fi) (tGo T g (own.map (·.2))) (tT T WF ft) (tI T WF fi1) (tGo T g1 vs1) (tT T WF ft1) (tE T WF fe) (own.map (·.2)) vs1 σ H Q := by
  obtain ⟨ι, hp, σi, R, S, P⟩ := h
  refine ⟨ι, hp, σi, R, S, wp_mono (wp_bind P) (fun nx h1 q ι1 H1 J R1 e1 so D hD => ?_) fun _ _ _ z => z⟩
  obtain ⟨R2, e2, r2⟩ := R1.newLst (xs := []) (vs := []) hD .nil
  cases r2 with
  | ref hDi => exact lc2_turns hDi (S.up (e1.trans e2)) (so.up e2) _ R2 (wp_mono (lc2_wp _ _ _ q) (fun _ _ => DV.up (e1.trans e2)) fun _ _ _ z => z)
/-- a clause's parts, in the block, wherever it is laid -/
abbrev InB (X : Cx) (scope : Scope) (φ : Cx → Prop) : Prop := ∀ (s : Shared) (H : Hp) (C : Addr) (cl : List (Str × Addr)) (fp : List Addr), φ (X.blk s H scope (compEnvC scope cl C X.env) fp)
theorem se_lc2 (hc : X.calm = true) (hN : X.N.Nodup) (hi : SI T X tg iter fi) (ok : BlkOk X.N X.env.scope scope own)
    (hg : InB X scope fun Y => SGo T Y tg (own.map (·.2)) g) (ht : InB X scope fun Y => SPT T Y ifs ft)
    (hi1 : InB X scope fun Y => SI T Y tg1 iter1 fi1) (hg1 : InB X scope fun Y => SGo T Y tg1 vs1 g1) (ht1 : InB X scope fun Y => SPT T Y ifs1 ft1) (he : InB X scope fun Y => SE T Y elt fe) (hv : ∀ i ∈ vs1, i ∈ own.map (·.2) := by decide)
    (hs : ∀ x, foldedSetIterable iter X.env x = pure x := by intro _; rfl) (hs1 : ∀ env x, foldedSetIterable iter1 env x = pure x := by intro _ _; rfl) :
    SE T X (.ListComp elt [⟨tg, iter, ifs, 0⟩, ⟨tg1, iter1, ifs1, 0⟩] scope pos) (evLC2 fi g ft fi1 g1 ft1 fe (own.map (·.2)) vs1) := fun W tk =>
  (pe_lc2 hc hN (hi W tk) ok hv hg ht (fun s H C cl fp => hi1 s H C cl fp _ takes0) hg1 ht1 (fun s H C cl fp => he s H C cl fp _ takes0) hs hs1).imp fun σ H Q h => lc2_imp h
theorem ss_setLc2 {y : Str} {py spos : Pos} (i : Nat) (hc : X.calm = true) (hN : X.N.Nodup) (hi : SI T X tg iter fi) (ok : BlkOk X.N X.env.scope scope own)
    (hg : InB X scope fun Y => SGo T Y tg (own.map (·.2)) g) (ht : InB X scope fun Y => SPT T Y ifs ft)
    (hi1 : InB X scope fun Y => SI T Y tg1 iter1 fi1) (hg1 : InB X scope fun Y => SGo T Y tg1 vs1 g1) (ht1 : InB X scope fun Y => SPT T Y ifs1 ft1) (he : InB X scope fun Y => SE T Y elt fe)
    (hsw : swapsWith (.ListComp elt [⟨tg, iter, ifs, 0⟩, ⟨tg1, iter1, ifs1, 0⟩] scope pos) (some (.Name y py)) spos.line X.env = pure true) (hv : ∀ i ∈ vs1, i ∈ own.map (·.2) := by decide) (hy : X.N[i]? = some y := by rfl) (hyl : X.env.scope.names.lookup y = some .local := by rfl)
    (hs : ∀ x, foldedSetIterable iter X.env x = pure x := by intro _; rfl) (hs1 : ∀ env x, foldedSetIterable iter1 env x = pure x := by intro _ _; rfl) :
    SS T X (.Assign [.Name y py] (.ListComp elt [⟨tg, iter, ifs, 0⟩, ⟨tg1, iter1, ifs1, 0⟩] scope pos) spos) (esSet i (evLC2 fi g ft fi1 g1 ft1 fe (own.map (·.2)) vs1)) := fun W tk =>
  (ps_setLc2 hc hN hy hyl hsw (hi W tk) ok hv hg ht (fun s H C cl fp => hi1 s H C cl fp _ takes0) hg1 ht1 (fun s H C cl fp => he s H C cl fp _ takes0) hs hs1).imp fun D σ H ⟨ι, hp, σi, R, S, P⟩ =>
    lc2_imp ⟨ι, hp, σi, R, S, wp_mono (st_wp P) (fun v h q ι' H' V' R' e' r' => q ι' H' _ R' e' ((S.up e').set r' i)) fun _ _ _ z => DXs.one S z⟩
end
end SV
set_option maxHeartbeats 3999999
namespace SV
open PySem PySem.Spec
open PyProof.Rows L2

/-! ### an untracked object of ours is written and tracked -/
section
variable {T : Tab} {X : Cx} {p : Pg} {d : Nat} {W : WX} {pins : List (Addr × Obj)} {s : Shared} {σ : Sl} {σi : ISt} {ι : List Addr} {hp : IHeap} {H : Hp} {Q : VK}
theorem _root_.L2.Inv.own {D : Addr} {u : HO} {h' : Heap} {t' : Nat} (I : Inv X pins σ H s) (f : FpOk X pins H D) (k : ∀ b o, b ≠ D → s.heap.get? b = some o → h'.get? b = some o) (hd : ∃ o, h'.get? D = some o)
    (new : ObjOk X.prog X.w (upd H D u) h' D u) : Inv X pins σ (upd H D u) { s with heap := h', toks := t' } := by
  obtain ⟨f0, f1, _, f3, f4, f5⟩ := f
  have ne : ∀ b o, H b = some o → b ≠ D := fun b o e => ne_of_none e f0
  refine I.step (g' := s.gens) (d' := s.drawn) (ch := [D]) (fun b hb => ?_) (fun b o _ _ n e _ => k b o (fun z => n (by rw [z]; exact List.mem_singleton.mpr rfl)) e) (fun b o _ hb n e _ => ⟨o.slots, k b o (fun z => n (by rw [z]; exact List.mem_singleton.mpr rfl)) e⟩)
    (fun b o n e h => by rw [upd_ne fun z => n (by rw [z]; exact List.mem_singleton.mpr rfl)]; exact h) (fun b o n e => ⟨o, k b o (fun z => n (by rw [z]; exact List.mem_singleton.mpr rfl)) e⟩)
    (fun b xs e => by rw [upd_ne (ne b _ e)]; exact e) (fun b o u e => by rw [upd_ne (ne b _ e)]; exact e) (fun b ps e => ⟨#[], by rw [upd_ne (ne b _ e)]; simpa using e⟩) (fun m hn => ?_) (fun b o e => ?_) I.bare
  · have z := List.mem_singleton.mp hb
    exact z ▸ ⟨f3, f1, f4, f5⟩
  · obtain ⟨o, es, ep, ho, r⟩ := hn
    exact ⟨o, es, ep, k _ o (Ne.symm f1) ho, r⟩
  · by_cases hb : b = D
    · rw [hb, upd_same] at e
      cases e
      exact hb ▸ new
    · rw [upd_ne hb] at e
      refine (I.hok b o e).stay (fun c v hc q => k c v ?_ q) (fun c q => by rw [upd_ne (ne c _ q)]; exact q) fun c xs q => by rw [upd_ne (ne c _ q)]; exact q
      rcases hc with rfl | hc
      · exact hb
      · exact ne c _ hc

/-! ### {a, b} of two ints -/
abbrev S2 (i j : Int) : Int → Bool := fun k => (fun k => false || decide (k = i)) k || decide (k = j)
abbrev n2 (i j : Int) : Nat := if (fun k => false || decide (k = i)) j = true then (if false = true then 0 else 0 + 1) else (if false = true then 0 else 0 + 1) + 1
def tSet2 (w : World) (ta tb : TE) : TE := fun σ H Q => ta σ H fun x H1 => tb σ H1 fun y H2 => ∃ i j, x = .int i ∧ y = .int j ∧ ∀ p, H2 p = none → Q (.ref p) (upd H2 p (SetO w p (S2 i j) (n2 i j)))
theorem set2_add {A : Around} {E : Value → Shared → Prop} {D : Addr} {S : Int → Bool} {n : Nat} {k : Int} {tk : Tok} {Qf : Bool → Shared → Prop} (R : SetR X.w s.heap D S n) (hn : n < 100)
    (h : ∀ h', Heap.SameBut D s.heap h' → SetR X.w h' D (fun j => S j || decide (j = k)) (if S k = true then n else n + 1) → Qf (!S k) { s with heap := h', toks := s.toks + 1 }) : wpAny (model X.prog X.w) A (setAdd D (.int k tk)) Qf E s := by
  unfold setAdd
  refine wpAny_holding (wpAny_bind ((intKind X.prog X.w).pyHash (intKind_is X.prog X.w k tk) ?_))
  exact setR_add_hashed (s := { s with toks := s.toks + 1 }) R (by unfold scanBound; omega) fun h' sb r => h h' sb r
abbrev newSetO (w : World) : Obj := { cls := .type "set", dict := none, data := .set #[] 0 (.fresh 0 0 (!w.params.followText "set-order")) }
/-- a display that is filled one by one; what the new set's maker is stays known -/
theorem set_core {A : Around} {E : Value → Shared → Prop} {P : Program} {w : World} {bb : Bool} {elts : List (Bool × Sem Value)} {ts : List (Sem Value)} {Qf : Value → Shared → Prop} (hn : elts.findIdx? (·.1) = none) (hl : elts.length ≤ 30) (hm : elts.map (·.2) = ts)
    (h : wpAny (model P w) A (evalAll ts) (fun vs s' => PySem.W.KdsFill (model P w) A E false s.heap.objs.size Qf vs s') E { s with heap := s.heap.push (newSetO w) }) : wpAny (model P w) A (setDisplay .oneByOne bb elts) Qf E s := by
  have e1 : (if elts.length > 30 then 0 else (elts.findIdx? (·.1)).getD elts.length) = elts.length := by
    rw [hn]
    exact if_neg (Nat.not_lt.mpr hl)
  unfold setDisplay newSet setsByText
  rw [if_neg (by decide)]
  refine wpAny_bind (wpAny_bind (wpAny_bind (wpAny_askSetting (wpAny_pure (wpAny_bind (wpAny_alloc (wpAny_pure ?_)))))))
  dsimp only
  rw [e1, List.take_length, List.drop_length, hm]
  have fill : ∀ vs s', PySem.W.KdsFill (model P w) A E false s.heap.objs.size Qf vs s' → wpAny (model P w) A (forIn vs PUnit.unit fun x _ => do let _ ← setAdd s.heap.objs.size x; pure (ForInStep.yield PUnit.unit)) (fun _ s2 => Qf (.ref s.heap.objs.size) s2) E s' := fun vs s' hf =>
    wpAny_mono (PySem.W.kds_for (fun x P s1 hx => wpAny_bind (wpAny_mono hx (fun _ s2 q => wpAny_pure ⟨rfl, q⟩) fun _ _ z => z)) vs s' hf) (fun _ _ q => q) fun _ _ z => z
  refine wpAny_bind (wpAny_holding (wpAny_bind (wpAny_mono h (fun vs s1 h1 => ?_) fun _ _ z => z)))
  refine wpAny_bind (wpAny_holding (wpAny_bind (wpAny_mono (fill vs s1 h1) (fun _ s2 q => ?_) fun _ _ z => z)))
  rw [if_neg (by decide)]
  exact wpAny_pure (by rw [List.forIn_nil]; exact wpAny_bind (wpAny_pure (wpAny_pure (wpAny_pure q))))
theorem pe_set2 {a b : Expr} {ta tb : TE} {pos : Pos} (ha : PE X a ta) (hb : PE X b tb) (hcd : PySem.W.kdsCode X.K X.env.code = true) (hp : [a, b].all PySem.W.kdsPlain = true := by rfl) : PE X (.Set [a, b] 0 pos) (tSet2 X.w ta tb) := by
  refine PE.mk fun pins s σ H Q I h => ?_
  rw [arm_eval_Set]
  refine wpAny_bind (wpAny_standAt (wpAny_bind (PySem.W.kds_main I.kIn hcd fun bb => ?_)))
  rw [PySem.W.kds_star [a, b] hp, List.map_map]
  have two : (evalEach [a, b] X.env) = [eval a X.env, eval b X.env] := rfl
  rw [two]
  refine set_core (ts := [eval a X.env, eval b X.env].map fun t => do let v ← t; standAt pos; pure v) rfl (show 2 ≤ 30 by decide) rfl ?_
  rw [← two]
  refine PySem.W.kds_all pos [a, b] _ _ ?_
  have hD : H s.heap.objs.size = none := I.hok.fresh (Nat.le_refl _)
  have old : ∀ b o, s.heap.get? b = some o → (s.heap.push (newSetO X.w)).get? b = some o := fun b o e => Heap.get?_push_of_some _ e
  have at0 : (s.heap.push (newSetO X.w)).get? s.heap.objs.size = some (newSetO X.w) := Heap.get?_push_size _ rfl
  have I1 : Inv X pins σ H { s with heap := s.heap.push (newSetO X.w) } := I.kept old
  have F0 : ∀ {H' : Hp}, H' s.heap.objs.size = none → FpOk X pins H' s.heap.objs.size := fun hn => I.fpOk (Nat.le_refl _) hn
  obtain ⟨_, f1, f2, f3, f4, f5⟩ := F0 hD
  have I2 : Inv X (pins ++ [(s.heap.objs.size, newSetO X.w)]) σ H { s with heap := s.heap.push (newSetO X.w) } := I1.pins_of fun q hq => by
    rcases List.mem_append.mp hq with z | z
    · exact I1.pin q (List.mem_append_right _ z)
    · have z' := List.mem_singleton.mp z
      exact z' ▸ ⟨at0, hD, f1, f2, fun v e => by cases e⟩
  show wpAny _ _ (eval a X.env) _ _ _
  refine thn (ha.run _ _ σ H _ I2 h) fun u s1 ⟨x, H1, J1, rx, q1⟩ => ?_
  show wpAny _ _ (eval b X.env) _ _ _
  refine thn (hb.run _ _ σ H1 _ J1 q1) fun v s2 ⟨y, H2, J2, ry, q2⟩ => ?_
  obtain ⟨i, j, rfl, rfl, q3⟩ := q2
  obtain ⟨t1, rfl⟩ := rx
  obtain ⟨t2, rfl⟩ := ry
  obtain ⟨at2, n2', _⟩ := J2.pin (s.heap.objs.size, newSetO X.w) (List.mem_append_right _ (List.mem_append_right _ (List.mem_singleton.mpr rfl)))
  have R0 : SetR X.w s2.heap s.heap.objs.size (fun _ => false) 0 := (setR_fresh (h := s.heap) X.w).at fun o e => by rw [at0] at e; rw [← Option.some.inj e]; exact at2
  have J3 : Inv X pins σ H2 s2 := J2.unpinned
  refine PySem.W.kds_fill_cons (set2_add R0 (by decide) fun h1 sb1 R1 => PySem.W.kds_fill_cons (set2_add (s := { s2 with heap := h1, toks := s2.toks + 1 }) R1 (by simp) fun h2 sb2 R2 => PySem.W.kds_fill_nil rfl ?_))
  have ob : ∃ o, h2.get? s.heap.objs.size = some o := by obtain ⟨o, _, _, _, ho, _⟩ := R2; exact ⟨o, ho⟩
  exact ⟨.ref _, _, J3.own (F0 n2') (fun b o hb e => (sb2.2 b hb).trans ((sb1.2 b hb).trans e)) ob (setO_new R2), rfl, q3 _ n2'⟩
def ivSrt2 (x y : IV) (h : IHeap) : Res IV := match x, y with
  | .int i, .int j => .ok (.ref h.n) (h.add (.lst ((cond (decide (i = j)) [i] (cond (decide (i < j)) [i, j] [j, i])).map .int)))
  | _, _ => .bad
theorem strict_uniq {l l' : List Int} (h : l.Pairwise (· < ·)) (h' : l'.Pairwise (· < ·)) (m : ∀ k, k ∈ l ↔ k ∈ l') : l = l' :=
  sorted_uniq ((List.perm_ext_iff_of_nodup (h.imp fun q => Int.ne_of_lt q) (h'.imp fun q => Int.ne_of_lt q)).mpr m) (h.imp fun q => Int.le_of_lt q) (h'.imp fun q => Int.le_of_lt q)
theorem sort2 {i j : Int} {ns : List Int} (h1 : ns.Pairwise (· < ·)) (h2 : ∀ k, k ∈ ns ↔ S2 i j k = true) : ns = cond (decide (i = j)) [i] (cond (decide (i < j)) [i, j] [j, i]) := by
  have m : ∀ k, k ∈ ns ↔ k = i ∨ k = j := fun k => (h2 k).trans (by simp [S2])
  by_cases e : i = j
  · subst e
    rw [decide_eq_true rfl]
    exact strict_uniq h1 (by simp) fun k => (m k).trans (by simp)
  · rw [decide_eq_false e]
    by_cases l : i < j
    · rw [decide_eq_true l]
      exact strict_uniq h1 (by simpa using l) fun k => (m k).trans (by simp)
    · rw [decide_eq_false l]
      exact strict_uniq h1 (by simp; omega) fun k => (m k).trans (by simp [or_comm])
/-- sorted({a, b}) -/
theorem se_sortedSet {a b : Expr} {fa fb : Ev} {sp : Pos} {q pos : Pos} (B : Bd T X p d) (hcd : PySem.W.kdsCode X.K X.env.code = true) (hg : Gl X "sorted") (hm : X.mg "sorted" = none) (ha : SE T X a fa) (hb : SE T X b fb) (hp : [a, b].all PySem.W.kdsPlain = true := by rfl) :
    SE T X (.Call (.Name "sorted" q) [.Set [a, b] 0 sp] [] pos) (evB ivSrt2 fa fb) := fun W tk =>
  (pe_callB (cr_sortedSet B.calm) hg hm bt_sorted (pa_cons (pe_set2 (ha W tk) (hb W tk) hcd hp) pa_nil)).imp fun σ H Q ⟨ι, hp, σi, R, S, P⟩ => by
    refine ⟨ι, hp, σi, R, S, wp_mono (wp_bind P) (fun x h1 q1 ι1 H1 V1 R1 e1 r1 => ⟨ι1, h1, σi, R1, S.up e1, wp_mono (wp_bind q1) (fun y h2 q2 ι2 H2 V2 R2 e2 r2 => ?_) fun _ _ _ => DX.up e1⟩) fun _ _ _ z => z⟩
    unfold ivSrt2 at q2
    split at q2
    · rename_i i j
      cases r1
      cases r2
      refine ⟨i, j, rfl, rfl, fun D hD => ⟨D, S2 i j, n2 i j, rfl, upd_same, by show (if _ then _ else _) < 64; split <;> decide, fun ns q s1 s2 _ hq => ?_⟩⟩
      have e3 : Ext ι2 H2 ι2 (upd H2 D (SetO X.w D (S2 i j) (n2 i j))) := Ext.new0 hD
      have R3 := R2.grow e3 (keep_new hD)
      rw [sort2 s1 s2]
      obtain ⟨R4, e4, r4⟩ := R3.newLst hq (rv_ints (T := T) (ι := ι2) (H := upd H2 D (SetO X.w D (S2 i j) (n2 i j))) (cond (decide (i = j)) [i] (cond (decide (i < j)) [i, j] [j, i])))
      exact q2 _ _ _ R4 ((e1.trans e2).trans (e3.trans e4)) r4
    · exact q2.elim
end
end SV
set_option maxHeartbeats 3999999
namespace SV
open PySem PySem.Spec
open PyProof.Rows L2

/-! ### hashes of nested keys without texts -/
def ivHash : Nat → IV → Option Int
  | 0, _ => none
  | k + 1, x => match x with
    | .non => some (reduceHash 0xFCA86420)
    | .int i => some (hashInt i)
    | .tup xs => (allSome (xs.map (ivHash k))).map fun l => reduceHash (Builtin.Tuple.tupleHashOf l)
    | _ => none
theorem allSome_c2 {α : Type} {a : Option α} {r : List (Option α)} {l : List α} (h : allSome (a :: r) = some l) : ∃ b m, a = some b ∧ allSome r = some m ∧ l = b :: m := by
  cases a with
  | none => cases h
  | some b =>
    have h : (match allSome r with
      | none => none
      | some l => some (b :: l)) = some l := h
    cases e : allSome r with
    | none => rw [e] at h; exact nomatch h
    | some m => rw [e] at h; cases h; exact ⟨b, m, rfl, rfl, rfl⟩
theorem ivHash_ok (w : World) : ∀ (k : Nat) (x : IV) (kk : NestedKey) (z : Int), nk k x = some kk → ivHash k x = some z → kk.hash w = z
  | 0, _, _, _, h, _ => by cases h
  | k + 1, x, kk, z, h, h' => by
    cases x with
    | non => cases h; cases h'; rfl
    | int i => cases h; cases h'; rfl
    | tup xs =>
      have h : (allSome (xs.map (nk k))).map NestedKey.tup = some kk := h
      have h' : (allSome (xs.map (ivHash k))).map (fun l => reduceHash (Builtin.Tuple.tupleHashOf l)) = some z := h'
      obtain ⟨ks, e1, e2⟩ := Option.map_eq_some_iff.mp h
      obtain ⟨zs, e3, e4⟩ := Option.map_eq_some_iff.mp h'
      subst e2 e4
      have all : ∀ (xs : List IV) (ks : List NestedKey) (zs : List Int), allSome (xs.map (nk k)) = some ks → allSome (xs.map (ivHash k)) = some zs → NestedKey.hashes w ks = zs := by
        intro xs
        induction xs with
        | nil => intro ks zs a b; cases a; cases b; rfl
        | cons x r ih =>
          intro ks zs a b
          obtain ⟨k1, m1, q1, q2, rfl⟩ := allSome_c2 a
          obtain ⟨k2, m2, q3, q4, rfl⟩ := allSome_c2 b
          show NestedKey.hash w k1 :: NestedKey.hashes w m1 = _
          rw [ih _ _ q2 q4, ivHash_ok w k x k1 k2 q1 q3]
      show reduceHash (Builtin.Tuple.tupleHashOf (NestedKey.hashes w ks)) = _
      rw [all xs ks zs e1 e3]
    | _ => cases h'
def apartI : List Int → Bool
  | [] => true
  | a :: r => !(r.any fun b => decide (b = a)) && apartI r
theorem apartI_ok : ∀ {l : List Int}, apartI l = true → l.Nodup
  | [], _ => List.nodup_nil
  | a :: r, h => by
    obtain ⟨h1, h2⟩ := Bool.and_eq_true_iff.mp (show (!(r.any fun b => decide (b = a)) && apartI r) = true from h)
    refine List.nodup_cons.mpr ⟨fun m => ?_, apartI_ok h2⟩
    have : (r.any fun b => decide (b = a)) = true := List.any_eq_true.mpr ⟨a, m, decide_eq_true rfl⟩
    rw [this] at h1
    cases h1
/-- no two keys hash alike -/
def hashApart (kvs : List (IV × IV)) : Bool := match allSome (kvs.map fun kv => ivHash 8 kv.1) with
  | some l => apartI l
  | none => false
section
variable {T : Tab} {X : Cx} {p : Pg} {d : Nat} {W : WX} {pins : List (Addr × Obj)} {s : Shared} {σ : Sl} {σi : ISt} {ι : List Addr} {hp : IHeap} {H : Hp} {Q : VK}
theorem hashApart_ok {w : World} : ∀ {kvs : List (IV × IV)} {xs : List (NestedKey × Addr × L2.V)} {ws : List (NestedKey × Addr × Value)} {l : List Int}, allSome (kvs.map fun kv => ivHash 8 kv.1) = some l → Paired (RN T ι H) kvs xs → Paired NW xs ws → (ws.map fun x => x.1.hash w) = l
  | _, _, _, _, h, .nil, .nil => by cases h; rfl
  | kv :: kvs, x :: xs, y :: ws, l, h, .cons a r, .cons b r' => by
    obtain ⟨z, m, h1, h2, rfl⟩ := allSome_c2 h
    show y.1.hash w :: _ = _
    rw [hashApart_ok h2 r r', ← b.1, ivHash_ok w 8 kv.1 x.1 z a.1 h1]

/-- dict(o), o a dict whose keys are tuples -/
theorem dict_of_dictH {κ : Type} [DecidableEq κ] {P : Program} {w : World} {knd : HeapKind P w κ} {A : Around} {E : Value → Shared → Prop} {o : Addr} {more : List (κ × Addr × Value)} {Qf : Value → Shared → Prop} (hu : knd.room A.in1.in1) (hS : (o == sysModules) = false)
    (hlt : o < s.heap.objs.size) (ho : (s.heap.push { cls := .type "dict", data := .dict #[] }).DictOfH knd o more) (ht : ∀ x ∈ more, Shared.TypeIs { s with heap := s.heap.push { cls := .type "dict", data := .dict #[] } } (.ref x.2.1) "tuple") (ha : (more.map fun x => knd.hash x.1).Nodup) (hz : more.length ≤ sizeLine)
    (h : ∀ h', h'.DictOfH knd s.heap.objs.size more → (∀ b u, s.heap.get? b = some u → h'.get? b = some u) → Qf (.ref s.heap.objs.size) { s with heap := h' }) : wpAny (model P w) A (call (.type "dict") [.ref o]) Qf E s := by
  refine callType_codes (Q₁ := fun v s₁ => v = .ref s.heap.objs.size ∧ s₁ = { s with heap := s.heap.push { cls := .type "dict", data := .dict #[] } }) F.kt_called_dict (F.kt_typeCall_dict_1 _) F.entry_dict_init (kt_code_dict_new _ ⟨rfl, rfl⟩) fun v s₁ hv => ?_
  obtain ⟨rfl, rfl⟩ := hv
  have new := Heap.DictOfH.new (knd := knd) s.heap
  refine ⟨new.typeIs, F.args_dict_init_2 _ _, ?_⟩
  unfold Builtin.«dict.__init__» Builtin.Dict.selfAndRest
  refine wpAny_bind (wpAny_bind (wpAny_notOrdered_dict new.typeIs (wpAny_pure ?_)))
  exact updateFrom_dictH (R := wants _ E) .none hu (Nat.ne_of_gt hlt) hS new ho (.inr ⟨ht, ha⟩) (by simpa using hz) fun h' d' _ sb =>
    ⟨rfl, h h' (by rw [storedAllH_nil_of_nodup more ho.nodup] at d'; exact d') fun b u e => (sb.2 b (Nat.ne_of_lt (Heap.lt_size e))).trans (Heap.get?_push_of_some _ e)⟩

def ivDictC (t0 : Bool) (base : List IV → IHeap → Res IV) (is : List IV) (h : IHeap) : Res IV := match is with
  | [x] => (match dctOf x h with
    | some (false, kvs) => .ok (.ref h.n) (h.add (.dct false kvs))
    | some (true, kvs) => cond (hashApart kvs) (.ok (.ref h.n) (h.add (.dct true kvs))) .bad
    | none => base is h)
  | _ => base is h
theorem Rel.newDctO {t : Bool} {kvs : List (IV × IV)} {a : Addr} {u : HO} (R : Rel T ι hp H) (hn : H a = none) (o : ORd T ι H t kvs u a) :
    Rel T (ι ++ [a]) (hp.add (.dct t kvs)) (upd H a u) ∧ Ext ι H (ι ++ [a]) (upd H a u) ∧ RV T (ι ++ [a]) (upd H a u) (.ref hp.n) (.ref a) := by
  have e : Ext ι H (ι ++ [a]) (upd H a u) := Ext.new hn
  exact ⟨R.add e hn (keep_new hn) ⟨u, upd_same, o.up e⟩, e, .ref (by rw [← R.len]; simp)⟩
theorem cs_dictC {t0 : Bool} {base : List IV → IHeap → Res IV} (B : Bd T X p d) (hb : CallS T X (.type "dict") base) : CallS T X (.type "dict") (ivDictC t0 base) := by
  intro W tk pins s σ H xs us Q ι hp is I rv R r P
  unfold ivDictC at P
  split at P
  · rename_i x
    split at P
    · rename_i kvs hd
      obtain ⟨V, rfl, rV⟩ := r.one
      obtain ⟨a, rfl, ks, h1, h2⟩ := dctOf_at B I R rV hd
      refine call_dictD pins s σ H _ us Q I rv ⟨a, ks, rfl, h1, fun q hq => ?_⟩
      obtain ⟨R2, e2, r2⟩ := R.newDctO (t := false) (kvs := kvs) hq ⟨ks, rfl, h2⟩
      exact P _ _ _ R2 e2 r2
    · rename_i kvs hd
      cases ha : hashApart kvs with
      | false => rw [ha] at P; exact P.elim
      | true =>
        rw [ha] at P
        obtain ⟨V, u, rfl, rfl, rV, ru⟩ := one_val r rv
        have I1 : Inv X pins σ H { s with heap := s.heap.push { cls := .type "dict", data := .dict #[] } } := I.kept fun b o e => Heap.get?_push_of_some _ e
        obtain ⟨a, rfl, xs, ws, hm, h2, h3, hl, hs⟩ := dctOf_at B I1 R rV hd
        cases ru
        unfold hashApart at ha
        cases hal : allSome (kvs.map fun kv => ivHash 8 kv.1) with
        | none => rw [hal] at ha; cases ha
        | some l =>
          rw [hal] at ha
          have hw := hashApart_ok (w := X.w) hal h2 h3
          have hu := B.hu
          have hlt : a < s.heap.objs.size := by
            obtain ⟨a', e1, xs', ws', hm', _⟩ := dctOf_at B I R rV hd
            cases e1
            obtain ⟨o, _, _, ho, _⟩ := hm'
            exact Heap.lt_size ho
          have lenW : ws.length ≤ sizeLine := by rw [← paired_len h3]; exact hl
          refine dict_of_dictH (knd := nestedKind X.prog X.w) (by show X.A.units + 2 + 8 < cLine; omega) hs hlt hm (fun x hx => ?_) (by rw [show (ws.map fun x => (nestedKind X.prog X.w).hash x.1) = l from hw]; exact apartI_ok ha) lenW fun h' d' keep => ?_
          · exact keyed_apart nestedKind_stays hm x hx
          · have hD : H s.heap.objs.size = none := I.hok.fresh (Nat.le_refl _)
            have hm0 : (s.heap.objs.size == sysModules) = false := beq_eq_false_iff_ne.mpr (Nat.ne_of_gt I.big)
            have I2 := I.laid (t' := s.toks) keep (Nat.le_refl _) (dn_obj (H' := upd H s.heap.objs.size (DnO X.prog X.w s.heap.objs.size xs)) d' h3 hl hm0)
            obtain ⟨R2, e2, r2⟩ := R.newDctO (t := true) (kvs := kvs) hD ⟨xs, rfl, h2⟩
            refine ⟨.ref s.heap.objs.size, _, I2, rfl, ?_⟩
            rw [B.hP, B.hw]
            exact P _ _ _ R2 e2 r2
    · exact hb W tk pins s σ H xs us Q ι hp _ I rv R r P
  · exact hb W tk pins s σ H xs us Q ι hp _ I rv R r P
end
end SV
set_option maxHeartbeats 3999999
namespace SV
open PySem PySem.Spec
open PyProof.Rows L2

/-! ### try: .. except C: .. -/
def noEr (r : RS) : RS := match r with
  | .er _ _ _ _ => .bad
  | r => r
def esTry (p : Pg) (c : Nat) (fb fs : EvS) : EvS := fun σ h => match fb σ h with
  | .er c' fl σ' h' => (match p.exm c' c with
    | some true => noEr (fs σ' h')
    | some false => .er c' fl σ' h'
    | none => .bad)
  | r => r
section
variable {T : Tab} {X : Cx} {p : Pg} {d : Nat} {W : WX} {pins : List (Addr × Obj)} {s : Shared} {σ : Sl} {σi : ISt} {ι : List Addr} {hp : IHeap} {H : Hp} {Q : VK} {body suite : List Stmt} {b₀ : Stmt} {fb fs : EvS} {x : Str} {np pos pos' : Pos}
theorem Bd.tr (B : Bd T X p d) {pn : List (Addr × Obj)} {xe : Value → Shared → Prop} : Bd T (X.tr pn xe) p d := ⟨B.K, B.calm, B.room, B.nd, B.fn, B.att, B.ini, B.isi, B.kio, B.nf, B.exm, B.kd, B.fk, B.hP, B.hw, B.hu⟩
theorem noEr_wp {D : Ends} {r : RS} (h : wpD T W ι H D (noEr r)) : wpD T (fun _ _ _ _ => False) ι H D r := by
  cases r with
  | er c fl σ h' => exact h.elim
  | _ => exact h
/-- a def's own context: what the library's rules of try ask -/
structure OwnX (X : Cx) : Prop where
  hs : X.stack = X.env :: X.outer
  hf : X.env.frame = some X.env.locals
theorem ss_try (O : OwnX X) (c : Nat) (B : Bd T X p d) (hg : Gl X x) (hm : X.mg x = some (.ref (T.ca c))) (hb : ∀ (pn : List (Addr × Obj)) (xe : Value → Shared → Prop), PassesOwn (model X.prog X.w) X.A X.env xe → SSs T (X.tr pn xe) body fb)
    (hsu : ∀ (a : Addr) (pn : List (Addr × Obj)), SSs T (X.suite a pn) (b₀ :: suite) fs) (hd : (x == ("__debug__" : Str)) = false := by decide) :
    SS T X (.Try body [.ExceptHandler (some (.Name x np)) none (b₀ :: suite) pos'] [] [] pos) (esTry p c fb fs) := fun W tk =>
  (ps_try_only (tb := fun W => tS T W fb) (ts := fun _ _ _ => tS T (fun _ _ _ _ => False) fs) O.hs O.hf ⟨hg, hd, .inl hm⟩ tk (fun W pn xe tk' po => hb pn xe po W tk') (fun a oe cls dd pn _ _ => hsu a _ _ takes0)).imp fun D σ H ⟨ι, hp, σi, R, S, P⟩ => by
    refine ⟨ι, hp, σi, R, S, ?_⟩
    revert P
    unfold esTry
    cases fb σi hp with
    | er c' fl σ' h' =>
      intro P ι' H' dd σ2 R' e' S' xf
      simp only at P
      split at P
      · rename_i he
        exact ⟨true, B.K ▸ B.exm _ _ _ he, fun _ a na => ⟨ι', h', σ', R', S', wpD.up e' (noEr_wp P)⟩, fun z => nomatch z⟩
      · rename_i he
        exact ⟨false, B.K ▸ B.exm _ _ _ he, fun z => (nomatch z), fun _ => P ι' H' dd σ2 R' e' S' xf⟩
      · exact P.elim
    | nx _ _ => exact fun P => P
    | rt _ _ => exact fun P => P
    | bk _ _ => exact fun P => P
    | ct _ _ => exact fun P => P
    | bad => exact fun P => P
end
/-- a def's own context is its own -/
theorem own_ctx {CX : CXT} {P : Program} {w : World} {K : PySem.W.Frag} {mg : Str → Option Value} {base : Heap} {N : List Str} {qual : Str} {scope : Scope} {f : Addr} {cd : Value} {A : Around} {outer : List Env} {s : Shared} {H : Hp} {E : XK} : OwnX (cxOf CX P w K mg base N qual scope f cd A outer s H E) := ⟨rfl, rfl⟩
end SV
set_option maxHeartbeats 3999999
namespace SV
open PySem PySem.Spec
open PyProof.Rows L2 LamX NdefX

/-! ### a lambda is called while its maker runs -/
abbrev lamQ (X : Cx) : Str := X.env.qual ++ "<lambda>"
abbrev lamCl (X : Cx) (sc : Scope) : List (Str × Addr) := cloFrom X.env.cells sc.names []
abbrev lamNF (X : Cx) (sc : Scope) (ps : Arguments) (c : Addr) : NF := ⟨"<lambda>", lamQ X, ps, [], sc, lamCl X sc, c⟩
abbrev lamO (X : Cx) (ps : Arguments) (b : Expr) (sc : Scope) (pm : Value) (c : Addr) (ct : Value) : Obj := PySem.W.kla_obj "<lambda>" (lamQ X) ps b sc (lamCl X sc) pm c ct
section
variable {T : Tab} {X : Cx} {p : Pg} {d : Nat} {W : WX} {pins : List (Addr × Obj)} {s : Shared} {σ : Sl} {σi : ISt} {ι : List Addr} {hp : IHeap} {H : Hp} {Q : VK}
variable {params : Arguments} {body : Expr} {scope : Scope} {N ps fr : List Str} {js : List Nat} {f c : Addr} {pm ct : Value}
theorem lam_call {A : Around} {k : Nat} {us : List Value} {vs : List V} {t : TE} (I : Inv X pins σ H s) (ho : s.heap.get? f = some (lamO X params body scope pm c ct)) (hc : s.heap.CodeRec (.ref c) (lamQ X)) (S : NScope N ps fr scope) (cp : Caps X (lamCl X scope) fr js)
    (hb : bindArgs (PySem.W.kla_fn "<lambda>" (lamQ X) params body scope (lamCl X scope) pm (.ref c) ct) ⟨us, []⟩ = pure (ps.zip us)) (hr : Room (k + 1) A) (e0 : Env0 X.prog X.w X.K X.mg X.base A X.stack s H) (r : Vals vs us) (hl : vs.length = ps.length)
    (hbody : Room k (A.deeper (envF (lamNF X scope params c) f s.heap.objs.size)) → PE (ncx (L2.CX X.prog X.w) X.prog X.w X.K X.mg X.base N (lamNF X scope params c) f A X.stack s H (fun _ _ _ => False)) body t) (ht : t (startF N vs (js.map (slotAt σ))) H Q) :
    codeAny (model X.prog X.w) A (.call (.ref f) ⟨us, []⟩) (CR (L2.CX X.prog X.w) X.stack X.prog X.w H s Q (fun _ _ _ => False)) s := by
  refine PySem.W.kla_callFunE hr.depth ho rfl S.co S.gen rfl hc ?_
  rw [hb]
  refine wpAny_pure (wpAny_newFunctionEnv S.nocell (fun y hy => S.par y.1 (List.of_mem_zip hy).1) (fun h₁ hns hsb => ⟨I.nolimit.fresh _ hsb, ?_⟩) S.kind)
  have kept : ∀ b o, s.heap.get? b = some o → h₁.get? b = some o := fun b o e => hsb.extBut b o (Nat.ne_of_lt (Heap.lt_size e)) (Heap.get?_push_of_some _ e)
  have J := inv_startN (CX := L2.CX X.prog X.w) (F := lamNF X scope params c) (f := f) (E := fun _ _ _ => False) (tk := s.toks + (ps.zip us).length) S hr.hd e0 hl r (cells_of I cp) hns kept
  show codeAny _ _ (.expr body (envF (lamNF X scope params c) f s.heap.objs.size)) _ _
  exact PySem.W.kla_codeExpr (wpAny_mono ((hbody (hr.deeper _)).run [] _ _ H Q J ht) (fun v s' ⟨w', H', J', rv, q⟩ => ⟨w', H', J'.os, J'.bare, J'.base, J'.hok, rv, q⟩) fun _ _ z => z)
/-- what is known of the running def is known in its lambda -/
theorem Bd.lam (B : Bd T X p d) {A : Around} {H' : Hp} {s' : Shared} {E : XK} (nd : N.Nodup) (r : Room (5 * d + 1) (A.deeper (envF (lamNF X scope params c) f s'.heap.objs.size))) :
    Bd T (ncx (L2.CX X.prog X.w) X.prog X.w X.K X.mg X.base N (lamNF X scope params c) f A X.stack s' H' E) p d :=
  ⟨B.K, rfl, r, nd, B.fn, B.att, B.ini, B.isi, B.kio, B.nf, B.exm, B.kd, B.fk, B.hP, B.hw, by have := r.un; show (A.deeper (envF (lamNF X scope params c) f s'.heap.objs.size)).units + 80 < cLine; omega⟩

/-! ### the heap grows by code objects -/
theorem Ext.n {H' : Hp} (e : ExtN H H') : Ext ι H ι H' := ⟨List.prefix_rfl, fun a xs q => e a _ q (fun ps z => nomatch z), fun a o u q => e a _ q (fun ps z => nomatch z), fun a n q => e a _ q (codeO_ne (c := a) (q := n))⟩
theorem Rel.n {H' : Hp} (R : Rel T ι hp H) (e : ExtN H H') (t : LamX.Tabs T.tb H') : Rel T ι hp H' :=
  ⟨R.len, R.nd, fun i o hi => by
    obtain ⟨a, h1, h2⟩ := R.ob i o hi
    refine ⟨a, h1, h2.up (Ext.n e) fun k => ?_⟩
    obtain ⟨u, hu⟩ := h2.some k
    rw [hu, e a u hu fun ps z => (or_apart h2 k).1 ps (by rw [hu, z])], R.dom, t⟩
/-- what the making of the def's lambdas asks -/
structure LamOk (T : Tab) (X : Cx) : Prop where
  ex : ∃ c P, X.env.code = .ref c ∧ TabB X.base X.mg c P ∧ (P, lamQ X) ∈ T.tb ∧ ∀ q ∈ T.tb, q.1 = P → q.2 = lamQ X
def slotI (σ : ISt) (j : Nat) : Option IV := match σ[j]? with
  | some o => o
  | none => none
theorem slot_rel (S : RSt T ι H σi σ) {j : Nat} {x : IV} (h : slotI σi j = some x) : ∃ v, slotAt σ j = some v ∧ RV T ι H x v := by
  unfold slotI at h
  split at h
  · rename_i o e
    subst h
    obtain ⟨v, h1, h2⟩ := S.get j x e
    exact ⟨v, slotAt_of h1, h2⟩
  · cases h
/-- the slots of the lambda: its parameters, what it captured, its own -/
def lamSt (m : Nat) (xs : List IV) (cs : List (Option IV)) : ISt := xs.map some ++ (cs ++ List.replicate m none)
theorem lamSt_rel {xs : List IV} {vs : List V} (S : RSt T ι H σi σ) (r : RVs T ι H xs vs) (N : List Str) (js : List Nat) : RSt T ι H (lamSt (N.length - xs.length - js.length) xs (js.map (slotI σi))) (startF N vs (js.map (slotAt σ))) := by
  have e := r.length
  refine ⟨?_, fun i x q => ?_⟩
  · unfold lamSt startF
    simp [e]
  · unfold lamSt at q
    unfold startF
    by_cases h1 : i < xs.length
    · rw [List.getElem?_append_left (by simpa using h1), List.getElem?_map] at q
      obtain ⟨y, h2, h3⟩ := Option.map_eq_some_iff.mp q
      cases h3
      obtain ⟨v, h4, h5⟩ := r.get h2
      exact ⟨v, by rw [List.getElem?_append_left (by simpa [← e] using h1), List.getElem?_map, h4]; rfl, h5⟩
    · rw [List.getElem?_append_right (by simpa using h1)] at q
      rw [List.getElem?_append_right (by simpa [← e] using h1)]
      simp only [List.length_map] at q ⊢
      rw [← e]
      by_cases h2 : i - xs.length < js.length
      · rw [List.getElem?_append_left (by simpa using h2), List.getElem?_map] at q
        obtain ⟨j, h3, h4⟩ := Option.map_eq_some_iff.mp q
        obtain ⟨v, h5, h6⟩ := slot_rel S h4
        exact ⟨v, by rw [List.getElem?_append_left (by simpa using h2), List.getElem?_map, h3]; exact congrArg some h5, h6⟩
      · rw [List.getElem?_append_right (by simpa using h2), List.getElem?_replicate] at q
        split at q <;> cases q
end
end SV
set_option maxHeartbeats 3999999
namespace SV
open PySem PySem.Spec
open PyProof.Rows L2 LamX NdefX

/-! ### the sorted list, by insertion -/
def insB {α : Type} (le : α → α → Bool) (a : α) : List α → List α
  | [] => [a]
  | b :: r => cond (le a b) (a :: b :: r) (b :: insB le a r)
def srtB {α : Type} (le : α → α → Bool) : List α → List α
  | [] => []
  | a :: r => insB le a (srtB le r)
theorem insB_at {α : Type} {le : α → α → Bool} {a : α} {l₂ : List α} : ∀ {l₁ : List α}, (∀ b ∈ l₁, (!le a b) = true) → (∀ b ∈ l₂, le a b = true) → insB le a (l₁ ++ l₂) = l₁ ++ a :: l₂
  | [], _, h => by
    cases l₂ with
    | nil => rfl
    | cons b r => show cond (le a b) (a :: b :: r) (b :: insB le a r) = _; rw [h b List.mem_cons_self]; rfl
  | b :: r, h1, h => by
    have e : le a b = false := by simpa using h1 b List.mem_cons_self
    show cond (le a b) (a :: b :: (r ++ l₂)) (b :: insB le a (r ++ l₂)) = _
    rw [e, insB_at (fun c hc => h1 c (List.mem_cons_of_mem _ hc)) h]; rfl
theorem srtB_eq {α : Type} {le : α → α → Bool} (O : PySem.W.TotalLe le) : ∀ l : List α, l.mergeSort le = srtB le l
  | [] => by simp [srtB]
  | a :: r => by
    have tot : ∀ x y, (le x y || le y x) = true := fun x y => (O.total x y).elim (fun z => by rw [z]; rfl) fun z => by rw [z]; simp
    obtain ⟨l₁, l₂, h1, h2, h3⟩ := List.mergeSort_cons O.trans tot a r
    have sp := List.pairwise_mergeSort O.trans tot (a :: r)
    rw [h1] at sp
    have h4 : ∀ b ∈ l₂, le a b = true := (List.pairwise_cons.mp (List.pairwise_append.mp sp).2.1).1
    rw [h1]
    show _ = insB le a (srtB le r)
    rw [← srtB_eq O r, h2, insB_at h3 h4]
/-! ### the keys, one by one -/
def keysL (fk : Ev) (cs : List (Option IV)) (m : Nat) : List IV → IHeap → Res (List IV)
  | [], h => .ok [] h
  | x :: r, h => (noErr (fk (lamSt m [x] cs) h)).bind fun k h1 => (keysL fk cs m r h1).bind fun ks h2 => .ok (k :: ks) h2
section
variable {T : Tab} {X : Cx} {p : Pg} {d : Nat} {W : WX} {pins : List (Addr × Obj)} {s : Shared} {σ : Sl} {σi : ISt} {ι : List Addr} {hp : IHeap} {H : Hp} {Q : VK}
theorem noErrK {r : Res IV} {Qk : IV → IHeap → Prop} {Qe Qe' : Nat → Fs → IHeap → Prop} (h : (noErr r).wp Qk Qe) : r.wp Qk Qe' := by
  cases r
  · exact h
  · exact h.elim
  · exact h.elim
theorem noErrB {α β : Type} {r : Res α} {k : α → IHeap → Res β} {Qk : β → IHeap → Prop} {Qe Qe' : Nat → Fs → IHeap → Prop} (h : ((noErr r).bind k).wp Qk Qe) : r.wp (fun a h => (k a h).wp Qk Qe) Qe' := by
  cases r
  · exact h
  · exact h.elim
  · exact h.elim
/-- two objects of ours are written, one of them is tracked from now on -/
theorem _root_.L2.Inv.own2 {D C : Addr} {u : HO} {h' : Heap} {t' : Nat} (I : Inv X pins σ H s) (f : FpOk X pins H D) (g : FpOk X pins H C) (ne : C ≠ D) (k : ∀ b o, b ≠ D → b ≠ C → s.heap.get? b = some o → h'.get? b = some o)
    (new : ObjOk X.prog X.w (upd H D u) h' D u) : Inv X pins σ (upd H D u) { s with heap := h', toks := t' } := by
  obtain ⟨f0, f1, _, f3, f4, f5⟩ := f
  obtain ⟨g0, g1, _, g3, g4, g5⟩ := g
  have neD : ∀ b o, H b = some o → b ≠ D := fun b o e => ne_of_none e f0
  have neC : ∀ b o, H b = some o → b ≠ C := fun b o e => ne_of_none e g0
  have nin : ∀ {b : Addr}, b ∉ [D, C] → b ≠ D ∧ b ≠ C := fun {b} h => ⟨fun z => h (by simp [z]), fun z => h (by simp [z])⟩
  refine I.step (g' := s.gens) (d' := s.drawn) (ch := [D, C]) (fun b hb => ?_) (fun b o _ _ n e _ => k b o (nin n).1 (nin n).2 e) (fun b o _ _ n e _ => ⟨o.slots, k b o (nin n).1 (nin n).2 e⟩) (fun b o n _ h => by rw [upd_ne (nin n).1]; exact h)
    (fun b o n e => ⟨o, k b o (nin n).1 (nin n).2 e⟩) (fun b xs e => by rw [upd_ne (neD b _ e)]; exact e) (fun b o u e => by rw [upd_ne (neD b _ e)]; exact e) (fun b ps e => ⟨#[], by rw [upd_ne (neD b _ e), e]; simp⟩) (fun m hn => ?_) (fun b o e => ?_) I.bare
  · obtain rfl | hb := List.mem_cons.mp hb
    · exact ⟨f3, f1, f4, f5⟩
    · exact List.mem_singleton.mp hb ▸ ⟨g3, g1, g4, g5⟩
  · obtain ⟨o, es, ep, ho, r⟩ := hn
    exact ⟨o, es, ep, k _ o (Ne.symm f1) (Ne.symm g1) ho, r⟩
  · by_cases hb : b = D
    · rw [hb, upd_same] at e
      cases e
      exact hb ▸ new
    · rw [upd_ne hb] at e
      refine (I.hok b o e).stay (fun c v hc q => ?_) (fun c q => by rw [upd_ne (neD c _ q)]; exact q) fun c xs q => by rw [upd_ne (neD c _ q)]; exact q
      rcases hc with hc | hc
      · rw [hc] at q ⊢
        exact k b v hb (neC b o e) q
      · exact k c v (neD c _ hc) (neC c _ hc) q
variable {params : Arguments} {body : Expr} {scope : Scope} {N fr : List Str} {par : Str} {js : List Nat} {f c : Addr} {pm ct : Value}
/-- what the walk over the items knows of the lambda -/
structure LamK (T : Tab) (X : Cx) (d : Nat) (A : Around) (params : Arguments) (body : Expr) (scope : Scope) (N fr : List Str) (par : Str) (js : List Nat) (f c : Addr) (pm ct : Value) (fk : Ev) : Prop where
  S : NScope N [par] fr scope
  cp : Caps X (lamCl X scope) fr js
  hb : ∀ u : Value, bindArgs (PySem.W.kla_fn "<lambda>" (lamQ X) params body scope (lamCl X scope) pm (.ref c) ct) ⟨[u], []⟩ = pure [(par, u)]
  hr : Room (5 * d + 2) A
  fr : A.frames = X.A.frames
  body : ∀ (s : Shared) (H : Hp), Room (5 * d + 1) (A.deeper (envF (lamNF X scope params c) f s.heap.objs.size)) → SE T (ncx (L2.CX X.prog X.w) X.prog X.w X.K X.mg X.base N (lamNF X scope params c) f A X.stack s H (fun _ _ _ => False)) body fk
theorem Env0.at {A : Around} (I : Inv X pins σ H s) (h : A.frames = X.A.frames) : Env0 X.prog X.w X.K X.mg X.base A X.stack s H := by
  have e := I.env0
  exact ⟨h.trans e.frames, e.mod, e.bs, e.bsz, e.funs, e.frf, e.hok, e.bare⟩
/-- the key of one item -/
theorem key_one {A : Around} {fk : Ev} {x : IV} {V : L2.V} {u : Value} {E : Value → Shared → Prop} (L : LamK T X d A params body scope N fr par js f c pm ct fk) (I : Inv X pins σ H s) (ho : s.heap.get? f = some (lamO X params body scope pm c ct)) (hc : H c = some (CodeO c (lamQ X))) (R : Rel T ι hp H) (S : RSt T ι H σi σ)
    (rx : RV T ι H x V) (ru : RelV V u) {k : IV → IHeap → Prop} (P : (fk (lamSt (N.length - 1 - js.length) [x] (js.map (slotI σi))) hp).wp k fun _ _ _ => False) :
    wpAny (model X.prog X.w) A (call (.ref f) [u]) (fun v s' => ∃ ι' hp' y Y H', Inv X pins σ H' s' ∧ Rel T ι' hp' H' ∧ Ext ι H ι' H' ∧ RV T ι' H' y Y ∧ RelV Y v ∧ k y hp') E s := by
  have rS := lamSt_rel S (.cons rx .nil) N js
  refine wpAny_call (codeAny_mono (lam_call (Q := fun Y H' => ∃ ι' hp' y, Rel T ι' hp' H' ∧ Ext ι H ι' H' ∧ RV T ι' H' y Y ∧ k y hp') I ho (codeO_at I.hok hc) L.S L.cp (L.hb u) L.hr (Env0.at I L.fr) (.cons ru .nil) rfl (fun r => L.body s H r _ L2.takes0)
    ⟨ι, hp, _, R, rS, wp_mono P (fun y h q ι' H' Y R' e' r' => ⟨ι', h, y, R', e', r', q⟩) fun _ _ _ z => z.elim⟩) fun r s' hq => ?_)
  cases r with
  | error e =>
    obtain ⟨_, _, _, _, _, _, _, _, _, _, _, _, z⟩ := hq
    exact z.elim
  | ok fl => cases fl with
    | ret v =>
      obtain ⟨Y, H', J, rv, ι', hp', y, R', e', r', q⟩ := I.after hq
      exact ⟨ι', hp', y, Y, H', J, R', e', r', rv, q⟩
    | _ => exact False.elim hq
/-- what is asked of the loop's end -/
def KeysEnd (T : Tab) (X : Cx) (pins : List (Addr × Obj)) (σ : Sl) (kS : Addr) (Qf : PUnit → Shared → Prop) (ι : List Addr) (H : Hp) (kd ks : List IV) (h : IHeap) : Prop :=
  ∀ (s' : Shared) (H' : Hp) (ι' : List Addr) (kA : Array Value) (e : Nat) (Kd : List L2.V), Inv X (pins ++ [(kS, seqObj "list" kA e)]) σ H' s' → Rel T ι' h H' → Ext ι H ι' H' → RVs T ι' H' (kd ++ ks) Kd → Vals Kd kA.toList → Qf ⟨⟩ s'
theorem pin_last {q : Addr × Obj} (I : Inv X (pins ++ [q]) σ H s) : s.heap.get? q.1 = some q.2 ∧ H q.1 = none := by
  obtain ⟨h1, h2, _⟩ := I.pin q (List.mem_append_right _ (List.mem_append_right _ (List.mem_singleton.mpr rfl)))
  exact ⟨h1, h2⟩
theorem keys_for {A : Around} {fk : Ev} {kS : Addr} {E : Value → Shared → Prop} {Qf : PUnit → Shared → Prop} {bd : Value → PUnit → Sem (ForInStep PUnit)} (L : LamK T X d A params body scope N fr par js f c pm ct fk)
    (hbd : ∀ (u : Value) (P : Shared → Prop) (s : Shared), wpAny (model X.prog X.w) A (call (.ref f) [u]) (fun v s' => wpAny (model X.prog X.w) A (Builtin.List.listUpdate (.ref kS) (·.push v)) (fun _ s2 => P s2) E s') (fun _ _ => False) s →
      wpAny (model X.prog X.w) A (bd u ⟨⟩) (fun r s' => r = .yield ⟨⟩ ∧ P s') E s)
    (hf : (f, lamO X params body scope pm c ct) ∈ pins) (hk : ∀ {H' : Hp}, H' kS = none → FpOk X pins H' kS) :
    ∀ (xs : List IV) (Vs : List L2.V) (us : List Value) (s : Shared) (H : Hp) (ι : List Addr) (hp : IHeap) (kA : Array Value) (e : Nat) (kd : List IV) (Kd : List L2.V), Inv X (pins ++ [(kS, seqObj "list" kA e)]) σ H s → H c = some (CodeO c (lamQ X)) → Rel T ι hp H → RSt T ι H σi σ → RVs T ι H xs Vs → Vals Vs us →
      RVs T ι H kd Kd → Vals Kd kA.toList → kd.length + xs.length ≤ sizeLine →
      (keysL fk (js.map (slotI σi)) (N.length - 1 - js.length) xs hp).wp (KeysEnd T X pins σ kS Qf ι H kd) (fun _ _ _ => False) →
      wpAny (model X.prog X.w) A (forIn us PUnit.unit bd) Qf E s
  | [], _, _, s, H, ι, hp, kA, e, kd, Kd, I, hc, R, S, rx, ru, rk, rK, hz, P => by
    cases rx
    cases ru
    rw [List.forIn_nil]
    exact wpAny_pure (P s H ι kA e Kd I R .refl (by rw [List.append_nil]; exact rk) rK)
  | x :: xs, _, _, s, H, ι, hp, kA, e, kd, Kd, I, hc, R, S, rx, ru, rk, rK, hz, P => by
    cases rx with
    | @cons _ V _ Vs r1 r2 =>
      cases ru with
      | @cons _ u _ us u1 u2 =>
        have P1 := noErrB (Qe' := fun _ _ _ => False) (show ((noErr (fk (lamSt (N.length - 1 - js.length) [x] (js.map (slotI σi))) hp)).bind fun k h1 => (keysL fk (js.map (slotI σi)) (N.length - 1 - js.length) xs h1).bind fun ks h2 => .ok (k :: ks) h2).wp (KeysEnd T X pins σ kS Qf ι H kd) (fun _ _ _ => False) from P)
        rw [List.forIn_cons]
        have hof : s.heap.get? f = some (lamO X params body scope pm c ct) := (I.pin _ (List.mem_append_right _ (List.mem_append_left _ hf))).1
        refine wpAny_bind (wpAny_mono (hbd u (fun s2 => wpAny (model X.prog X.w) A (forIn us PUnit.unit bd) Qf E s2) s (thn (key_one L I hof hc R S r1 u1 P1) fun v s1 ⟨ι1, hp1, y, Y, H1, I1, R1, e1, ry, rY, q1⟩ => ?_)) (fun r s2 ⟨er, q⟩ => by subst er; exact q) fun _ _ z => z)
        obtain ⟨o1, n1⟩ := pin_last I1
        have len1 : kA.size = kd.length := by rw [← Array.length_toList, ← rK.length, ← rk.length]
        have lz : kA.size ≤ sizeLine := by rw [len1]; exact Nat.le_trans (Nat.le_add_right _ _) hz
        obtain ⟨e2, o2⟩ : ∃ e2, (s1.heap.update kS (Obj.mapSeq (·.push v))).get? kS = some (seqObj "list" (kA.push v) e2) := ⟨_, get?_update_seq o1 (·.push v)⟩
        have sb := Heap.SameBut.update s1.heap kS (Obj.mapSeq (·.push v))
        refine listUpdate_at o1 rfl ?_ lz (by rw [Array.size_push]; exact Nat.succ_le_succ lz)
        obtain ⟨f0, f1, f2, f3, f4, f5⟩ := hk n1
        have I2 : Inv X pins σ H1 { s1 with heap := s1.heap.update kS (Obj.mapSeq (·.push v)) } := (I1.unpinned).turned (t' := s1.toks) (fun b o hb q => (sb.2 b hb).trans q) f0 f1 f3 f4 f5
        have I3 : Inv X (pins ++ [(kS, seqObj "list" (kA.push v) e2)]) σ H1 { s1 with heap := s1.heap.update kS (Obj.mapSeq (·.push v)) } := I2.pins_of fun q hq => by
          rcases List.mem_append.mp hq with z | z
          · exact I2.pin q (List.mem_append_right _ z)
          · have z' := List.mem_singleton.mp z
            exact z' ▸ ⟨o2, f0, f1, f2, fun v e => by cases e⟩
        have hzn : (kd ++ [y]).length + xs.length ≤ sizeLine := by
          simp only [List.length_append, List.length_cons, List.length_nil] at hz ⊢
          omega
        refine keys_for L hbd hf hk xs Vs us _ H1 ι1 hp1 (kA.push v) e2 (kd ++ [y]) (Kd ++ [Y]) I3 (e1.cod _ _ hc) R1 (S.up e1) (r2.up e1) u2 ((rk.up e1).append (.cons ry .nil)) (by rw [Array.toList_push]; exact rK.append (.cons rY .nil)) hzn ?_
        exact wp_mono (wp_bind q1) (fun ks h q s' H' ι' kA' e' Kd' I' R' e'' rk' rK' => q s' H' ι' kA' e' Kd' I' R' (e1.trans e'') (by simpa using rk') rK') fun _ _ _ z => z
end
end SV
set_option maxHeartbeats 3999999
namespace SV
open PySem PySem.Spec
open PyProof.Rows L2 LamX NdefX
section
variable {T : Tab} {X : Cx} {p : Pg} {d : Nat} {W : WX} {pins : List (Addr × Obj)} {s : Shared} {σ : Sl} {σi : ISt} {ι : List Addr} {hp : IHeap} {H : Hp} {Q : VK}
variable {params : Arguments} {body : Expr} {scope : Scope} {N fr : List Str} {par : Str} {js : List Nat} {f c : Addr} {pm ct : Value}
theorem each_reads {ks : List L2.V} {us : List Value} {ds : List PyData} (I : Inv X pins σ H s) (h : DpAll X.K H ks ds) (r : Vals ks us) : PySem.W.EachIs (fun v k => ∃ as, Reads s.heap v k as) us ds := by
  induction ks generalizing us ds with
  | nil => cases h; cases r; exact .nil
  | cons k ks ih =>
    cases h with
    | cons h1 h2 => cases r with
      | cons r1 r2 => exact .cons (Dp.reads I _ _ _ h1 r1) (ih h2 r2)
theorem allSome_len {α : Type} {f : IV → Option α} : ∀ {ks : List IV} {ds : List α}, allSome (ks.map f) = some ds → ds.length = ks.length
  | [], _, e => by cases e; rfl
  | k :: ks, _, e => by
    obtain ⟨b, m, _, h2, rfl⟩ := allSome_c2 e
    simp [allSome_len h2]
theorem each_zip {xs : List IV} {Vs : List L2.V} {us : List Value} {ds : List PyData} (r : RVs T ι H xs Vs) (rv : Vals Vs us) (hl : xs.length = ds.length) : PySem.W.EachIs (fun (v : Value) (q : IV × PyData) => ∃ V, RV T ι H q.1 V ∧ RelV V v) us (xs.zip ds) := by
  induction xs generalizing Vs us ds with
  | nil => cases r; cases rv; exact .nil
  | cons x xs ih =>
    cases r with
    | cons r1 r2 => cases rv with
      | cons v1 v2 => cases ds with
        | nil => exact nomatch hl
        | cons d ds => exact .cons ⟨_, r1, v1⟩ (ih r2 v2 (by simpa using hl))
theorem each_out {us : List Value} {qs : List (IV × PyData)} (h : PySem.W.EachIs (fun (v : Value) (q : IV × PyData) => ∃ V, RV T ι H q.1 V ∧ RelV V v) us qs) : ∃ Vo, RVs T ι H (qs.map (·.1)) Vo ∧ Vals Vo us := by
  induction h with
  | nil => exact ⟨([]), .nil, .nil⟩
  | cons h t ih =>
    obtain ⟨V, h1, h2⟩ := h
    obtain ⟨Vo, h3, h4⟩ := ih
    exact ⟨V :: Vo, .cons h1 h3, .cons h2 h4⟩
/-- sorted(xs, key=f), f a lambda of the running def -/
theorem sortKey_run {fk : Ev} {l : Addr} {xs : List IV} {Vs : List L2.V} {Qf : Value → Shared → Prop} {E : Value → Shared → Prop} (B : Bd T X p d) (L : LamK T X d X.A.in1.in1 params body scope N fr par js f c pm ct fk) (I : Inv X pins σ H s) (hf : (f, lamO X params body scope pm c ct) ∈ pins) (hc : H c = some (CodeO c (lamQ X)))
    (R : Rel T ι hp H) (S : RSt T ι H σi σ) (hs : SqL X.K H l Vs) (rx : RVs T ι H xs Vs)
    (P : (keysL fk (js.map (slotI σi)) (N.length - 1 - js.length) xs hp).wp (fun ks h => ∃ ds : List PyData, ks.length = xs.length ∧ allSome (ks.map (toD h 9)) = some ds ∧ PySem.W.AllAlike ds ∧ PySem.W.Sortable ds ∧ (∀ d ∈ ds, d.depth < 50) ∧
      ∀ (s' : Shared) (H' : Hp) (ι' : List Addr) (Vo : List L2.V) (D : Addr), Inv X pins σ (upd H' D (.lst Vo)) s' → H' D = none → Rel T ι' h H' → Ext ι H ι' H' → RVs T ι' H' ((srtB (PySem.W.dataLe false (·.2)) (xs.zip ds)).map (·.1)) Vo → Qf (.ref D) s') (fun _ _ _ => False)) :
    wpAny (model X.prog X.w) X.A (call (.builtin "sorted") [.ref l] [(Str.ofString "key", .ref f)]) Qf E s := by
  obtain ⟨its, rv, hpl, hz⟩ := I.list hs
  have lenI : its.length ≤ sizeLine := by rw [← rv.length]; exact hz
  generalize hn : s.heap.objs.size = n
  refine PySem.W.sorted_of_sort hpl.isList lenI (ksk_s1 _ _) (fun _ => ksk_l1 _ _) fun E' => ?_
  rw [ksk_t1, hn]
  have ha0 : (PySem.W.copyHeap s.heap its).get? (n + 1) = some (seqObj "list" its.toArray 0) := by rw [← hn]; exact PySem.W.copyHeap_at s.heap its
  have hsz0 : (PySem.W.copyHeap s.heap its).objs.size = n + 2 := by
    unfold PySem.W.copyHeap
    rw [size_push', Heap.size_update, size_push', hn]
  have old0 : ∀ b o, s.heap.get? b = some o → b ≠ n + 1 ∧ b < n ∧ (PySem.W.copyHeap s.heap its).get? b = some o := fun b o e => by
    have := Heap.lt_size e
    rw [hn] at this
    exact ⟨Nat.ne_of_lt (Nat.lt_succ_of_lt this), this, PySem.W.copyHeap_old e⟩
  generalize hcp : PySem.W.copyHeap s.heap its = h0 at ha0 hsz0 old0 ⊢
  obtain ⟨e1, ha1⟩ : ∃ e1, (h0.update (n + 1) (Obj.mapSeq fun _ => #[])).get? (n + 1) = some (seqObj "list" #[] e1) := ⟨_, get?_update_seq ha0 fun _ => #[]⟩
  have sb1 := Heap.SameBut.update h0 (n + 1) (Obj.mapSeq fun _ => (#[] : Array Value))
  have hsz1 : (h0.update (n + 1) (Obj.mapSeq fun _ => (#[] : Array Value))).objs.size = n + 2 := by rw [Heap.size_update]; exact hsz0
  generalize hh1 : h0.update (n + 1) (Obj.mapSeq fun _ => (#[] : Array Value)) = h1 at ha1 sb1 hsz1
  unfold ksk_tree
  refine wpAny_bind (listItems_at ha0 rfl (wpAny_bind (listUpdate_at ha0 rfl (wpAny_bind ?_) (by rw [List.size_toArray]; exact lenI) (Nat.zero_le _))))
  rw [hh1]
  refine seqEpoch_at ha1 rfl (wpAny_bind (wpAny_newTuple (wpAny_bind (wpAny_newList (wpAny_holding ?_) (Nat.zero_le _))) lenI))
  have hk3 : (h1.push (seqObj "tuple" its.toArray 0)).objs.size = n + 3 := by rw [size_push', hsz1]
  have hS : ((h1.push (seqObj "tuple" its.toArray 0)).push (seqObj "list" #[] 0)).get? (n + 3) = some (seqObj "list" #[] 0) := by rw [← hk3]; exact Heap.get?_push_size _ rfl
  have ha3 : ((h1.push (seqObj "tuple" its.toArray 0)).push (seqObj "list" #[] 0)).get? (n + 1) = some (seqObj "list" #[] e1) := Heap.get?_push_of_some _ (Heap.get?_push_of_some _ ha1)
  have old3 : ∀ b o, s.heap.get? b = some o → ((h1.push (seqObj "tuple" its.toArray 0)).push (seqObj "list" #[] 0)).get? b = some o := fun b o e =>
    Heap.get?_push_of_some _ (Heap.get?_push_of_some _ ((sb1.2 b (old0 b o e).1).trans (old0 b o e).2.2))
  show wpAny _ _ (ksk_rest (n + 1) (.ref f) false its.toArray e1 (.ref (h1.push (seqObj "tuple" its.toArray 0)).objs.size)) _ _ { s with heap := (h1.push (seqObj "tuple" its.toArray 0)).push (seqObj "list" #[] 0) }
  rw [hk3]
  generalize hh3 : (h1.push (seqObj "tuple" its.toArray 0)).push (seqObj "list" #[] 0) = h3 at hS ha3 old3
  -- what stands stays, the two lists are pinned
  have Fa : ∀ {H' : Hp}, H' (n + 1) = none → FpOk X pins H' (n + 1) := fun q => I.fpOk (by omega) q
  have Fk : ∀ {H' : Hp}, H' (n + 3) = none → FpOk X pins H' (n + 3) := fun q => I.fpOk (by omega) q
  have na : H (n + 1) = none := I.hok.fresh (by omega)
  have nk : H (n + 3) = none := I.hok.fresh (by omega)
  have Fk2 : ∀ {H' : Hp}, H' (n + 3) = none → FpOk X (pins ++ [(n + 1, seqObj "list" #[] e1)]) H' (n + 3) := fun q => by
    obtain ⟨f0, f1, f2, f3, f4, f5⟩ := Fk q
    refine ⟨f0, f1, f2, f3, f4, fun r hr => ?_⟩
    rcases List.mem_append.mp hr with z | z
    · exact f5 r (List.mem_append_left _ z)
    · rcases List.mem_append.mp z with z | z
      · exact f5 r (List.mem_append_right _ z)
      · rw [List.mem_singleton.mp z]; show n + 1 ≠ n + 3; omega
  have I3 : Inv X pins σ H { s with heap := h3 } := I.kept old3
  have I4 : Inv X ((pins ++ [(n + 1, seqObj "list" #[] e1)]) ++ [(n + 3, seqObj "list" #[] 0)]) σ H { s with heap := h3 } := I3.pins_of fun q hq => by
    rcases List.mem_append.mp hq with z | z
    · rcases List.mem_append.mp z with z | z
      · exact I3.pin q (List.mem_append_right _ z)
      · obtain ⟨_, f1, f2, _⟩ := Fa na
        exact (List.mem_singleton.mp z) ▸ ⟨ha3, na, f1, f2, fun v e => by cases e⟩
    · obtain ⟨_, f1, f2, _⟩ := Fk nk
      exact (List.mem_singleton.mp z) ▸ ⟨hS, nk, f1, f2, fun v e => by cases e⟩
  unfold ksk_rest
  refine (wpAny_bind (wpAny_rule ?_))
  first
    | rw [List.forIn_toArray]
    | (rw [← Array.forIn_toList]; (simp only [List.toList_toArray]))
    | rw [← Array.forIn_toList]
  refine wpAny_bind ?_
  have lenX : xs.length = its.length := rx.length.trans rv.length
  refine keys_for (pins := pins ++ [(n + 1, seqObj "list" #[] e1)]) (kd := []) (Kd := []) L (fun u P s1 hP => ?_) (List.mem_append_left _ hf) Fk2 xs Vs its _ H ι hp #[] 0 I4 hc R S rx rv .nil .nil (by rw [lenX]; simpa using lenI) (wp_mono P (fun ks h ⟨ds, hlk, hds, hal, hso, hdp, fin⟩ => ?_) fun _ _ _ z => z)
  · refine wpAny_bind (wpAny_attempt (wpAny_mono hP (fun v s2 h2 => ?_) fun _ _ z => z.elim))
    exact wpAny_bind (wpAny_mono h2 (fun _ s3 h3 => wpAny_pure ⟨rfl, h3⟩) fun _ _ z => z)
  · intro s' H' ι' kA e' Kd I' R' e'' rk rK
    obtain ⟨oK, nK⟩ := pin_last I'
    obtain ⟨oA, nA⟩ := pin_last I'.unpinned
    have J : Inv X pins σ H' s' := I'.unpinned.unpinned
    rw [List.nil_append] at rk
    refine wpAny_bind (listItems_at oK rfl ?_)
    have dp := toDs_dp (T := T) (ι := ι') (H := H') (fun x v d => toD_dp R' 9 x v d) ks Kd ds rk hds
    have reads : PySem.W.EachIs (fun v k => ∃ as, Reads s'.heap v k as) kA.toList ds := each_reads J (B.K ▸ dp) rK
    have lenK : kA.size = its.length := by rw [← Array.length_toList, ← rK.length, ← rk.length, hlk, lenX]
    have lenD : ds.length = xs.length := by rw [← hlk]; exact allSome_len hds
    obtain ⟨G, g1, g2⟩ := restrict s'.heap fun b => decide (b ≠ n + 3)
    have gk : ∀ b, b ≠ n + 3 → G.get? b = s'.heap.get? b := fun b hb => g1 b (decide_eq_true hb)
    refine PySem.W.keyH_end (κ := PySem.W.dataKind s'.heap ds) (h₁ := G) (fun b o hb q => ?_) (g2 (n + 3) (by simp)) oK oA (show n + 3 ≠ n + 1 by omega) (PySem.W.SortsAt.data reads hal hso fun d hd => ?_) lenK lenI fun h' tk c' kp hout => ⟨rfl, ?_⟩
    · by_cases hb' : b = n + 3
      · rw [hb', g2 (n + 3) (by simp)] at q; exact nomatch q
      · rw [← gk b hb']; exact q
    · have h1 := hdp d hd
      have h2 := B.hu
      show X.A.units + 1 + 1 + d.depth < cLine
      omega
    · have rx' : PySem.W.EachIs (fun (v : Value) (q : IV × PyData) => ∃ V, RV T ι' H' q.1 V ∧ RelV V v) its (xs.zip ds) := each_zip (rx.up e'') rv lenD.symm
      have em : (xs.zip ds).map (·.2) = ds := List.map_snd_zip (Nat.le_of_eq lenD)
      have ko : PySem.W.KeyedOut false ((xs.zip ds).map (·.2)) its (PySem.W.sortVals (PySem.W.dataKind s'.heap ds) false kA.toList its) := by
        rw [em]
        exact ⟨s'.heap, kA.toList, hal, rfl, reads⟩
      have ee := PySem.W.keyedOut_each (rev := false) (fun q : IV × PyData => q.2) ko rx'
      have tl : PySem.W.TotalLe (PySem.W.dataLe false fun q : IV × PyData => q.2) := PySem.W.sortLe_total _ _ _
      rw [srtB_eq tl] at ee
      obtain ⟨Vo, ro, rO⟩ := each_out ee
      have lO : Vo.length ≤ sizeLine := by
        rw [rO.length, PySem.W.sortVals_length false (by rw [Array.length_toList, lenK])]
        exact lenI
      have new : ObjOk X.prog X.w (upd H' (n + 1) (.lst Vo)) h' (n + 1) (.lst Vo) := ⟨lO, _, c', rO, hout⟩
      have J2 := J.own2 (u := .lst Vo) (h' := h') (t' := tk) (Fa nA) (Fk nK) (show n + 3 ≠ n + 1 by omega) (fun b o h1 h2 q => kp b o h1 (by rw [gk b h2]; exact q)) new
      exact fin _ H' ι' Vo (n + 1) J2 nA R' e'' ro
end
end SV
set_option maxHeartbeats 3999999
namespace SV
open PySem PySem.Spec
open PyProof.Rows L2 LamX NdefX
/-- keys that can be sorted: alike, tuples with an item at least, not deep -/
def sortOk (ds : List PyData) : Bool := (ds.all fun a => ds.all fun b => PySem.W.alike a b) && ((ds.all fun d => match d with
  | .tuple (_ :: _) => true
  | _ => false) && ds.all fun d => Nat.blt d.depth 50)
theorem sortOk_ok {ds : List PyData} (h : sortOk ds = true) : PySem.W.AllAlike ds ∧ PySem.W.Sortable ds ∧ ∀ d ∈ ds, d.depth < 50 := by
  obtain ⟨h1, h2⟩ := Bool.and_eq_true_iff.mp h
  obtain ⟨h2, h3⟩ := Bool.and_eq_true_iff.mp h2
  refine ⟨fun a ma b mb => List.all_eq_true.mp (List.all_eq_true.mp h1 a ma) b mb, .inl fun d hd => ?_, fun d hd => Nat.le_of_ble_eq_true (List.all_eq_true.mp h3 d hd)⟩
  have z := List.all_eq_true.mp h2 d hd
  split at z
  · exact ⟨_, _, rfl⟩
  · exact nomatch z
def evSortK (fa fk : Ev) (js : List Nat) (m : Nat) : Ev := fun σ h => (fa σ h).bind fun x h1 => match x with
  | .ref i => (match h1.items i with
    | some xs => (keysL fk (js.map (slotI σ)) m xs h1).bind fun ks h2 => match allSome (ks.map (toD h2 9)) with
      | some ds => cond (Nat.beq ks.length xs.length && sortOk ds) (.ok (.ref h2.n) (h2.add (.lst ((srtB (PySem.W.dataLe false (·.2)) (xs.zip ds)).map (·.1))))) .bad
      | none => .bad
    | none => .bad)
  | _ => .bad
section
variable {T : Tab} {X : Cx} {p : Pg} {d : Nat} {W : WX} {pins : List (Addr × Obj)} {s : Shared} {σ : Sl} {σi : ISt} {ι : List Addr} {hp : IHeap} {H : Hp} {Q : VK}
variable {params : Arguments} {body : Expr} {scope : Scope} {N fr : List Str} {par : Str} {js : List Nat}
theorem keysL_wp {fk : Ev} {cs : List (Option IV)} {m : Nat} {Qk : List IV → IHeap → Prop} {Qe Qe' : Nat → Fs → IHeap → Prop} : ∀ (xs : List IV) (h : IHeap), (keysL fk cs m xs h).wp Qk Qe → (keysL fk cs m xs h).wp Qk Qe'
  | [], _, P => P
  | x :: r, h, P => by
    unfold keysL at P ⊢
    cases e : fk (lamSt m [x] cs) h with
    | bad => rw [e] at P; exact P.elim
    | err c fl h' => rw [e] at P; exact P.elim
    | ok k h' =>
      rw [e] at P
      have P1 := wp_bind (show ((keysL fk cs m r h').bind fun ks h2 => .ok (k :: ks) h2).wp Qk Qe from P)
      show ((keysL fk cs m r h').bind fun ks h2 => .ok (k :: ks) h2).wp Qk Qe'
      have P2 := keysL_wp (Qe' := Qe') r h' P1
      revert P2
      cases keysL fk cs m r h' <;> exact id
theorem se_sortKey {e : Expr} {q pos lpos kpos : Pos} {fa fk : Ev} (O : OwnX X) (B : Bd T X p d) (La : LamOk T X) (hrm : Room (5 * d + 4) X.A) (hg : Gl X "sorted") (hm : X.mg "sorted" = none) (ha : SE T X e fa) (S : NScope N [par] fr scope)
    (hbody : ∀ (f c : Addr) (s : Shared) (H : Hp) (A : Around), Bd T (ncx (L2.CX X.prog X.w) X.prog X.w X.K X.mg X.base N (lamNF X scope params c) f A X.stack s H (fun _ _ _ => False)) p d →
      SE T (ncx (L2.CX X.prog X.w) X.prog X.w X.K X.mg X.base N (lamNF X scope params c) f A X.stack s H (fun _ _ _ => False)) body fk)
    (hfree : ∀ y ∈ scope.names, y.2 = .free → X.env.scope.names.lookup y.1 = some .cell ∨ X.env.scope.names.lookup y.1 = some .free) (hfr : ∀ y ∈ fr, (y, NameKind.free) ∈ scope.names) (hjs : js.map (fun j => X.N[j]?) = fr.map some)
    (hdef : defaultsOf params X.env = ([], []) := by rfl)
    (hb : ∀ (pm : Value) (c : Addr) (ct u : Value), bindArgs (PySem.W.kla_fn "<lambda>" (lamQ X) params body scope (lamCl X scope) pm (.ref c) ct) ⟨[u], []⟩ = pure [(par, u)] := by intros; rfl)
    (he : backTo pos (starEach [e] X.env) = (false, eval e X.env) :: backTo pos (starEach [] X.env) := by rfl) (hpl : (backTo pos (starEach [e] X.env)).any (·.1) = false := by rfl) (hst : starEach [e] X.env = (false, eval e X.env) :: starEach [] X.env := by rfl) :
    SE T X (.Call (.Name "sorted" q) [e] [⟨some "key", .Lambda params body scope lpos, kpos⟩] pos) (evSortK fa fk js (N.length - 1 - js.length)) := fun W tk => by
  refine PE.mk fun pins s σ H Q I ⟨ι, hp, σi, R, Sr, P⟩ => ?_
  obtain ⟨cc, Pt, hcode, TB, hmem, huni⟩ := La.ex
  refine wpAny_Call_Name_kw (ld_blt I hg hm bt_sorted (PyProof.Rows.callWith_kw ((sa_c ha sa_n hst).go tk I R Sr (k := fun ys h1 => ∃ x, ys = [x] ∧ (match x with
    | .ref i => (match h1.items i with
      | some xs => (keysL fk (js.map (slotI σi)) (N.length - 1 - js.length) xs h1).bind fun ks h2 => match allSome (ks.map (toD h2 9)) with
        | some ds => cond (Nat.beq ks.length xs.length && sortOk ds) (.ok (.ref h2.n) (h2.add (.lst ((srtB (PySem.W.dataLe false (·.2)) (xs.zip ds)).map (·.1))))) .bad
        | none => .bad
      | none => .bad)
    | _ => .bad : Res IV).wp (DV T ι H Q) (DX T ι H W σ)) ?_ fun us s1 ι1 hp1 ys Vs H1 I1 R1 e1 S1 r1 rv1 q1 => ?_) he hpl rfl rfl) (by decide) (by decide))
  · show (((fa σi hp).bind fun x h1 => (eaN σi h1).bind fun xs h2 => .ok (x :: xs) h2)).wp _ _
    have P1 := wp_bind P
    revert P1
    cases fa σi hp with
    | ok x h1 => exact fun q => ⟨x, rfl, q⟩
    | err c fl h1 => exact fun q => q
    | bad => exact fun q => q
  · obtain ⟨x, rfl, q1⟩ := q1
    obtain ⟨V, u, rfl, rfl, rV, ru⟩ := one_val r1 rv1
    split at q1
    · rename_i i
      split at q1
      · rename_i xs hxs
        obtain ⟨l, _, rfl, _, _, _⟩ := R1.seq hxs rV
        cases ru
        show wpAny _ _ (evalAll [do let v ← eval (.Lambda params body scope lpos) X.env; standAt pos; pure v]) _ _ _
        refine wpAny_evalAll_cons (wpAny_bind (lam_make2 I1 TB hcode hmem huni R1.tb hdef (fun y hy e => (hfree y hy e).elim (fun z => I1.ok.has _ (.inl z)) fun z => I1.ok.has _ (.inr z)) fun f c pm ct H2 s2 I2 en tb2 hof hfn hfr2 hcO => wpAny_bind (wpAny_standAt (wpAny_pure (wpAny_pure ?_)))))
        have R2 := R1.n en tb2
        have e2 : Ext ι1 H1 ι1 H2 := Ext.n en
        obtain ⟨l', vs, el, _, hsq, rxs⟩ := R2.seq hxs (rV.up e2)
        cases el
        have nL : f ≠ X.env.locals ∧ f ∉ X.fs := by
          have hs := O.hs
          refine ⟨fun z => hfr2 ?_, fun z => hfr2 ?_⟩
          · rw [hs]
            exact List.mem_filterMap.mpr ⟨X.env, List.mem_cons_self, by rw [O.hf, z]⟩
          · rw [hs]
            obtain ⟨en', h1, h2⟩ := List.mem_filterMap.mp z
            exact List.mem_filterMap.mpr ⟨en', List.mem_cons_of_mem _ h1, h2⟩
        have I3 : Inv X (pins ++ [(f, lamO X params body scope pm c ct)]) σ H2 s2 := I2.pins_of fun w hw => by
          rcases List.mem_append.mp hw with z | z
          · exact I2.pin w (List.mem_append_right _ z)
          · exact (List.mem_singleton.mp z) ▸ ⟨hof, hfn, nL.1, nL.2, fun v z => by cases z⟩
        have Lk : LamK T X d X.A.in1.in1 params body scope N fr par js f c pm ct fk := ⟨S, Caps.made I2.ok hfree hfr hjs, hb pm c ct, (hrm.in1 (k := 5 * d + 3)).in1, rfl, fun s' H' hr => hbody f c s' H' _ (B.lam S.nd hr)⟩
        refine sortKey_run B Lk I3 (List.mem_append_right _ (List.mem_singleton.mpr rfl)) hcO R2 (S1.up e2) (B.K ▸ hsq) rxs (wp_mono (keysL_wp _ _ (wp_bind q1)) (fun ks h q => ?_) fun _ _ _ z => z)
        split at q
        · rename_i ds hds
          cases hok : (Nat.beq ks.length xs.length && sortOk ds) with
          | false => rw [hok] at q; exact q.elim
          | true =>
            rw [hok] at q
            obtain ⟨k1, k2⟩ := Bool.and_eq_true_iff.mp hok
            obtain ⟨a1, a2, a3⟩ := sortOk_ok k2
            refine ⟨ds, Nat.eq_of_beq_eq_true k1, hds, a1, a2, a3, fun s' H' ι' Vo D I' hD R' e' ro => ?_⟩
            obtain ⟨R4, e4, r4⟩ := R'.newLst hD ro
            exact ⟨.ref D, _, I'.unpinned, rfl, q _ _ _ R4 (((e1.trans e2).trans e').trans e4) r4⟩
        · exact q.elim
      · exact q1.elim
    · exact q1.elim
end
end SV
set_option maxHeartbeats 3999999
namespace SV
open PySem PySem.Spec
open PyProof.Rows L2 LamX NdefX
/-- what a def's own body knows besides: its code object, the room that is left -/
structure CdOk (T : Tab) (X : Cx) (d : Nat) : Prop where
  cd : PySem.W.kdsCode T.K X.env.code = true
  rm : Room (5 * d + 4) X.A
end SV
set_option maxHeartbeats 3999999
namespace SV
open PySem PySem.Spec
open PyProof.Rows L2 LamX NdefX

/-! ### a def of the head by its body -/
theorem kds_of {K : PySem.W.Frag} {cd : Value} {q : Str} (h : PySem.W.codeIn K cd q = true) : PySem.W.kdsCode K cd = true := by
  unfold PySem.W.codeIn at h
  unfold PySem.W.kdsCode
  split at h
  · split at h
    · rename_i c _ _ _ _ _ e
      show (match K.lookup c with
        | some ⟨_, _, .fields _u, _⟩ => true
        | _ => false) = true
      rw [e]
    · exact nomatch h
  · exact nomatch h
section
variable {T : Tab} {P : Program} {w : World} {mg : Str → Option Value} {base : Heap}
theorem fn_okD {x qual : Str} {params : Arguments} {body : List Stmt} {scope : Scope} {dvs : List V} {kws : List (Str × V)} {f : Addr} {fd : FuncData} {N ps : List Str} {k : Nat} {b : EvS} (F : FunD T.K x qual params body scope dvs kws f fd) (S : FnScope N ps scope)
    (hbody : ∀ (cdv : Value) (A : Around) (outer : List Env) (s : Shared) (H : Hp) (E : XK), PySem.W.codeIn T.K cdv qual = true → (∃ oc od osl, T.K.lookup f = some ⟨oc, od, .func fd, osl⟩) → fd.code = cdv → Room k (A.deeper (envOfC qual scope s.heap.objs.size f cdv)) →
      SSs T (cxOf (L2.CX P w) P w T.K mg base N qual scope f cdv A outer s H E) body b) :
    FnOk P w T.K mg base (L2.CX P w) (k + 1) f fd ps (fun vs H Q E => vs.length = ps.length ∧ spR T (evFn ps.length N.length b) vs H Q E) := by
  obtain ⟨oc, od, dV, kV, doc, pm, ann, cdv, ct, osl, rfl, lk, hcd, _, _⟩ := F.ex
  refine fn_of lk hcd S (fun vs H Q E h => h.1) fun A outer s H vs Q E hr ⟨hl, ι, hp, xs, R, rv, q⟩ => ?_
  refine ⟨_, hbody cdv A outer s H E hcd ⟨oc, od, osl, lk⟩ rfl hr (fun cls d _ H' => E cls d H') (takes_of rfl rfl rfl rfl), ι, hp, xs.map some ++ List.replicate (N.length - xs.length) none, R, RSt.start rv N, ?_⟩
  unfold evFn at q
  have e1 : xs.length = ps.length := rv.length.trans hl
  rw [e1, show Nat.beq ps.length ps.length = true from by simp] at q
  rw [e1]
  revert q
  show (endF (b (xs.map some ++ List.replicate (N.length - ps.length) none) hp)).wp _ _ → wpD T _ ι H _ (b (xs.map some ++ List.replicate (N.length - ps.length) none) hp)
  cases b (xs.map some ++ List.replicate (N.length - ps.length) none) hp with
  | nx σ h => exact fun q ι' H' σ' R' e' S' => q ι' H' _ R' e' .non
  | rt v h => exact fun q => q
  | bk _ _ => exact fun q => q.elim
  | ct _ _ => exact fun q => q.elim
  | er c fs σ h => exact fun q ι' H' d σ' R' e' S' xf => q ι' H' d R' e' xf
  | bad => exact fun q => q
theorem cond_fn {b : Bool} {k : Nat} {f f' : Addr} {g g' : List IV → IHeap → Res IV} (h : FnS T P w mg base k f g) (h' : FnS T P w mg base k f' g') : FnS T P w mg base k (cond b f f') (cond b g g') := by
  cases b
  · exact h'
  · exact h
theorem cond_fk {b : Bool} {k : Nat} {F : Nat → Addr} {p p' : Nat × List Str} {g g' : List IV → List IV → IHeap → Res IV} (h : FnK T P w mg base k (F p.1) p.2 g) (h' : FnK T P w mg base k (F p'.1) p'.2 g') : FnK T P w mg base k (F (cond b p p').1) (cond b p p').2 (cond b g g') := by
  cases b
  · exact h'
  · exact h
/-! ### what the head tells of classes -/
def clsOkB (K : PySem.W.Frag) (C : Addr) : Bool := PySem.W.plainGet K C Str.empty && (PySem.W.hasDictIn K C && (PySem.W.plainOver K C && He.eqO (PySem.W.findIn K (.ref C) "__setattr__") (some (some (.builtin "object.__setattr__")))))
theorem clsOkB_ok {K : PySem.W.Frag} {C : Addr} (h : clsOkB K C = true) : Cls K C := by
  obtain ⟨h1, h⟩ := He.ba h
  obtain ⟨h2, h⟩ := He.ba h
  obtain ⟨h3, h4⟩ := He.ba h
  exact ⟨h1, h2, h3, He.eqO_ok h4⟩
def recB (K : PySem.W.Frag) (p g : Addr) : Bool := match PySem.W.recIn K p "property" with
  | some (.ref q :: _) => decide (q = g)
  | _ => false
def attB (T : Tab) (C : Addr) (f : Str) : Att → Bool
  | .no => true
  | .fld => clsOkB T.K C && He.eqO (PySem.W.findIn T.K (.ref C) f) (some none)
  | .prop g => clsOkB T.K C && (match PySem.W.findIn T.K (.ref C) f with
    | some (some (.ref p)) => He.eqO (PySem.W.specialIn T.K (.ref p) "__get__") (some (some (.builtin "property.__get__"))) && (decide (PySem.W.takesIn T.K (.ref p) = some true) && recB T.K p (T.fa g))
    | _ => false)
  | .meth g => clsOkB T.K C && (He.eqO (PySem.W.findIn T.K (.ref C) f) (some (some (.ref (T.fa g)))) && (PySem.W.isFn T.K (.ref (T.fa g)) && PySem.W.keepIn T.K (.ref (T.fa g))))
theorem attB_ok {C : Addr} {f : Str} {a : Att} (h : attB T C f a = true) : AttOk T C f a := by
  cases a with
  | no => trivial
  | fld =>
    obtain ⟨h1, h2⟩ := He.ba h
    exact ⟨clsOkB_ok h1, He.eqO_ok h2⟩
  | prop g =>
    obtain ⟨h1, h2⟩ := He.ba h
    refine ⟨clsOkB_ok h1, ?_⟩
    split at h2
    · rename_i p hp
      obtain ⟨h3, h4⟩ := He.ba h2
      obtain ⟨h4, h5⟩ := He.ba h4
      unfold recB at h5
      split at h5
      · rename_i q rest hq
        exact ⟨p, hp, He.eqO_ok h3, of_decide_eq_true h4, rest, by rw [hq, of_decide_eq_true h5]⟩
      · exact nomatch h5
    · exact nomatch h2
  | meth g =>
    obtain ⟨h1, h2⟩ := He.ba h
    obtain ⟨h2, h3⟩ := He.ba h2
    obtain ⟨h3, h4⟩ := He.ba h3
    exact ⟨clsOkB_ok h1, He.eqO_ok h2, h3, h4⟩
def mkB (K : PySem.W.Frag) (C f : Addr) : Bool := PySem.W.makesIn K C && (He.eqO (PySem.W.findIn K (.ref C) "__init__") (some (some (.ref f))) && (PySem.W.isFn K (.ref f) && PySem.W.keepIn K (.ref C)))
theorem mkB_ok {K : PySem.W.Frag} {C f : Addr} (h : mkB K C f = true) : Mk K C f := by
  obtain ⟨h1, h⟩ := He.ba h
  obtain ⟨h2, h⟩ := He.ba h
  obtain ⟨h3, h4⟩ := He.ba h
  exact ⟨h1, He.eqO_ok h2, h3, h4⟩
def ownKB (K : PySem.W.Frag) (C : Addr) : Bool := clsOkB K C && (He.eqO (PySem.W.findIn K (.ref C) "__class__") (some (some clsB)) && (He.eqO (PySem.W.specialIn K clsB "__get__") (some (some (.builtin "getset_descriptor.__get__"))) &&
  (decide (PySem.W.takesIn K clsB = some true) && decide (PySem.W.mroIn K C (.type "object") = some true))))
theorem ownKB_ok {K : PySem.W.Frag} {C : Addr} (h : ownKB K C = true) : OwnK K C := by
  obtain ⟨h1, h⟩ := He.ba h
  obtain ⟨h2, h⟩ := He.ba h
  obtain ⟨h3, h⟩ := He.ba h
  obtain ⟨h4, h5⟩ := He.ba h
  exact ⟨clsOkB_ok h1, He.eqO_ok h2, He.eqO_ok h3, of_decide_eq_true h4, of_decide_eq_true h5⟩
def elemN (L : List Nat) (c : Nat) : Bool := match L with
  | [] => false
  | a :: r => cond (Nat.beq a c) true (elemN r c)
theorem elemN_ok {L : List Nat} {c : Nat} (h : elemN L c = true) : c ∈ L := by
  induction L with
  | nil => exact nomatch h
  | cons a r ih =>
    unfold elemN at h
    cases e : Nat.beq a c with
    | true => rw [Nat.eq_of_beq_eq_true e]; exact List.mem_cons_self
    | false => rw [e] at h; exact List.mem_cons_of_mem _ (ih h)
/-- the tables of the program, against the written part -/
def chkG (T : Tab) (at_ : List (Nat × Nat × Att)) (it : List (Nat × Nat)) (is_ : List (Nat × Nat × Bool)) (kt : List Nat) (ex : List (Nat × Nat × Bool)) : Bool :=
  at_.all (fun q => attB T (T.ca q.1) (T.nm q.2.1) q.2.2) && (it.all (fun q => mkB T.K (T.ca q.1) (T.fa q.2)) && (is_.all (fun q => decide (PySem.W.kitOne T.K (tyc T q.1) (tyc T q.2.1) = some q.2.2)) && (kt.all (fun c => ownKB T.K (T.ca c)) &&
    ex.all (fun q => decide (PySem.W.exmOne T.K (T.xc q.1) (.ref (T.ca q.2.1)) = some q.2.2)))))
theorem glo_of {p : Pg} {at_ : List (Nat × Nat × Att)} {it : List (Nat × Nat)} {is_ : List (Nat × Nat × Bool)} {kt : List Nat} {ex : List (Nat × Nat × Bool)} (h : chkG T at_ it is_ kt ex = true) (h1 : p.att = attOf at_) (h2 : p.ini = look1 it) (h3 : p.isi = look2 is_) (h4 : p.kio = elemN kt) (h5 : p.nf = fun _ _ => false) (h6 : p.exm = look2 ex)
    (kd : ∀ k, p.kd k ≠ [] → KdOk T.K w (T.kd k) (p.kd k)) (hP : P = T.P) (hw : w = T.w) : Glo T P w mg base p := by
  obtain ⟨c1, h⟩ := He.ba h
  obtain ⟨c2, h⟩ := He.ba h
  obtain ⟨c3, h⟩ := He.ba h
  obtain ⟨c4, c5⟩ := He.ba h
  exact ⟨fun c m => h1 ▸ attOf_ok (fun q hq => attB_ok (List.all_eq_true.mp c1 q hq)) c m, fun c f e => look1_ok (R := fun c f => Mk T.K (T.ca c) (T.fa f)) (fun q hq => mkB_ok (List.all_eq_true.mp c2 q hq)) c f (h2 ▸ e),
    fun a b r e => look2_ok (R := fun a b r => PySem.W.kitOne T.K (tyc T a) (tyc T b) = some r) (fun q hq => of_decide_eq_true (List.all_eq_true.mp c3 q hq)) a b r (h3 ▸ e), fun c e => ownKB_ok (List.all_eq_true.mp c4 c (elemN_ok (h4 ▸ e))), fun c t e => (by rw [h5] at e; exact (nomatch e)),
    fun a b r e => look2_ok (R := fun a b r => PySem.W.exmOne T.K (T.xc a) (.ref (T.ca b)) = some r) (fun q hq => of_decide_eq_true (List.all_eq_true.mp c5 q hq)) a b r (h6 ▸ e), kd, hP, hw⟩
/-! ### dicts of the module -/
def kvB : List DictEntry → List (Str × Str) → Bool
  | [], [] => true
  | e :: es, (k, v) :: r => (match e.key, e.val with
    | .str x _, .str y _ => decide (x = k) && decide (y = v)
    | _, _ => false) && kvB es r
  | _, _ => false
theorem kvB_ok {z : Str} : ∀ {es : List DictEntry} {l : List (Str × Str)}, kvB es l = true → (∀ v, sfind z l = some v → ∃ e t, es.find? (·.key.isStr z) = some e ∧ e.val = .str v t) ∧ (sfind z l = none → es.find? (·.key.isStr z) = none) ∧ es.any (·.refKey) = false
  | [], [], _ => ⟨(fun v h => nomatch h), fun _ => rfl, rfl⟩
  | [], _ :: _, h => nomatch h
  | _ :: _, [], h => nomatch h
  | e :: es, (k, v) :: r, h => by
    obtain ⟨h1, h2⟩ := He.ba h
    obtain ⟨i1, i2, i3⟩ := kvB_ok (z := z) h2
    split at h1
    · rename_i x t y t2 hk hv
      obtain ⟨h3, h4⟩ := He.ba h1
      have ex := of_decide_eq_true h3
      have ey := of_decide_eq_true h4
      subst ex ey
      have er : e.refKey = false := by unfold DictEntry.refKey; rw [hk]
      refine ⟨fun u hu => ?_, fun hn => ?_, by rw [List.any_cons, er, i3]; rfl⟩
      · unfold sfind at hu
        by_cases q : x = z
        · rw [decide_eq_true q] at hu
          cases hu
          exact ⟨e, t2, by rw [List.find?_cons, hk, show (Value.str x t).isStr z = true from by simp [Value.isStr, q]], hv⟩
        · rw [decide_eq_false q] at hu
          obtain ⟨e', t', a, b⟩ := i1 u hu
          exact ⟨e', t', by rw [List.find?_cons, hk, show (Value.str x t).isStr z = false from by simp [Value.isStr, q]]; exact a, b⟩
      · unfold sfind at hn
        by_cases q : x = z
        · rw [decide_eq_true q] at hn; exact nomatch hn
        · rw [decide_eq_false q] at hn
          rw [List.find?_cons, hk, show (Value.str x t).isStr z = false from by simp [Value.isStr, q]]
          exact i2 hn
    · exact nomatch h1
def kdB (K : PySem.W.Frag) (d : Addr) (l : List (Str × Str)) : Bool := match K.lookup d with
  | some ⟨_, _, .dict es _, _⟩ => kvB es.toList l
  | _ => false
theorem kdB_ok {K : PySem.W.Frag} {d : Addr} {l : List (Str × Str)} (h : kdB K d l = true) (k : ∃ es n, KDict K w d es n) : KdOk K w d l := by
  refine ⟨k, fun z => ?_⟩
  unfold kdB at h
  split at h
  · rename_i es n sl hl
    obtain ⟨i1, i2, i3⟩ := kvB_ok (z := z) h
    refine ⟨fun v hv => ?_, fun hn => ?_⟩
    · obtain ⟨e, t, a, b⟩ := i1 v hv
      exact ⟨t, by unfold PySem.W.nsIn; rw [hl]; show (match es.toList.find? (·.key.isStr z) with | some e => some (some e.val) | none => _) = _; rw [a]; exact congrArg (fun u => some (some u)) b⟩
    · unfold PySem.W.nsIn
      rw [hl]
      show (match es.toList.find? (·.key.isStr z) with | some e => some (some e.val) | none => if es.toList.any (·.refKey) then none else some none) = _
      rw [i2 hn, i3]
      rfl
  · exact nomatch h
/-! ### the law's call -/
theorem law_sp {H : Hp} {a : Addr} {ns : List Int} {g : List IV → IHeap → Res IV} (hS : SqL T.K H a (ns.map V.int)) (hT : LamX.Tabs T.tb H)
    (ev : ∀ o, (o = IO.lst (ns.map .int) ∨ o = IO.frz (ns.map .int)) → ∃ h, g [.ref 0] ⟨1, .nd (some o) .lf .lf⟩ = .ok (.bl true) h) : spR T g [.ref a] H (fun v _ => v = .bl true) fun _ _ _ => False := by
  have get0 : ∀ o : IO, ∀ i u, (⟨1, .nd (some o) .lf .lf⟩ : IHeap).get i = some u → i = 0 ∧ u = o := fun o i u e => by
    have e : (Tr.nd (some o) .lf .lf).get i = some u := e
    rw [Tr.get_eq] at e
    by_cases h : i = 0
    · rw [if_pos h] at e; exact ⟨h, (Option.some.inj e).symm⟩
    · rw [if_neg h] at e
      split at e <;> exact nomatch e
  have rel : ∀ o : IO, OR T [a] H o a → Rel T [a] ⟨1, .nd (some o) .lf .lf⟩ H := fun o ob => by
    refine ⟨rfl, fun i j oi oj b hi hj _ _ _ _ => ?_, fun i u hi => ?_, fun i u hi => ?_, hT⟩
    · rw [(get0 o i oi hi).1, (get0 o j oj hj).1]
    · obtain ⟨rfl, rfl⟩ := get0 o i u hi; exact ⟨a, rfl, ob⟩
    · rw [(get0 o i u hi).1]; exact Nat.zero_lt_one
  have fin : ∀ o : IO, OR T [a] H o a → (o = IO.lst (ns.map .int) ∨ o = IO.frz (ns.map .int)) → spR T g [.ref a] H (fun v _ => v = .bl true) fun _ _ _ => False := fun o ob ho => by
    obtain ⟨h, e⟩ := ev o ho
    refine ⟨[a], _, [.ref 0], rel o ob, .cons (.ref rfl) .nil, ?_⟩
    rw [e]
    exact fun ι' H' V _ _ r => by cases r; rfl
  rcases hS with (h | ⟨ob, h⟩) | h
  · exact fin (.lst (ns.map .int)) ⟨_, h, rv_ints ns⟩ (.inl rfl)
  · exact fin (.frz (ns.map .int)) ⟨_, .inl ⟨ob, h⟩, rv_ints ns⟩ (.inr rfl)
  · exact fin (.frz (ns.map .int)) ⟨_, .inr (.inr h), rv_ints ns⟩ (.inr rfl)
end
/-! ### names of the module -/
section
variable {T : Tab} {h : Heap} {mg : Str → Option Value}
theorem glv_int {x : Str} {i : Int} (X : T.K.In h) (G : h.Ns mainGlobals mg) (c : (He.Fa.int x i).ok T.K = true) : GlV T mg x (.int i) := by
  obtain ⟨t, e⟩ := He.int_ok X G c
  exact ⟨.int i, _, e, ⟨t, rfl⟩, fun _ _ => .int i⟩
theorem glv_str {x z : Str} (X : T.K.In h) (G : h.Ns mainGlobals mg) (c : (He.Fa.str x z).ok T.K = true) : GlV T mg x (.str z) := by
  obtain ⟨t, e⟩ := He.str_ok X G c
  exact ⟨.str z, _, e, ⟨t, rfl⟩, fun _ _ => .str z⟩
theorem glv_kd {x : Str} {k : Nat} (X : T.K.In h) (G : h.Ns mainGlobals mg) (c : (He.Fa.glo x).ok T.K = true) (e : T.kd k = He.ga T.K x) : GlV T mg x (.kd k) := ⟨.ref (T.kd k), _, He.glo_ok X G c, by rw [e]; rfl, fun _ _ => .kd k⟩
def tupSB (K : PySem.W.Frag) (x : Str) (ys : List Str) : Bool := He.tupB K x (ys.map He.Dv.str) && (match K.lookup (He.ga K x) with
  | some ⟨.type c, none, _, _⟩ => decide (c = "tuple")
  | _ => false)
theorem rvs_strs {ι : List Addr} {H : Hp} : ∀ ys : List Str, RVs T ι H (ys.map IV.str) (ys.map V.str)
  | [] => .nil
  | y :: r => .cons (.str y) (rvs_strs r)
theorem dv_strs (K : PySem.W.Frag) (ys : List Str) : (ys.map He.Dv.str).map (He.Dv.v K) = ys.map V.str := by
  rw [List.map_map]; rfl
theorem glv_tup {x : Str} {ys : List Str} (X : T.K.In h) (G : h.Ns mainGlobals mg) (c : (He.Fa.glo x).ok T.K = true) (c2 : tupSB T.K x ys = true) : GlV T mg x (.tup (ys.map .str)) := by
  refine ⟨.ref (He.ga T.K x), _, He.glo_ok X G c, rfl, fun ι H => .tup (vs := ys.map V.str) ?_ (rvs_strs ys)⟩
  have := He.tupB_ok (He.ba c2).1 H
  rwa [dv_strs] at this
theorem gli_tup {x : Str} {ys : List Str} (X : T.K.In h) (G : h.Ns mainGlobals mg) (c : (He.Fa.glo x).ok T.K = true) (c2 : tupSB T.K x ys = true) : GlI T mg x ys := by
  refine ⟨He.ga T.K x, He.glo_ok X G c, ?_, fun H => ?_⟩
  · have z := (He.ba c2).2
    split at z
    · rename_i c' dt sl e
      exact ⟨_, e, congrArg Value.type (of_decide_eq_true z), rfl⟩
    · exact nomatch z
  · have := He.tupB_ok (He.ba c2).1 H
    rwa [dv_strs] at this
end
end SV
set_option maxHeartbeats 3999999
namespace SV
open PySem PySem.Spec
open PyProof.Rows L2 LamX NdefX
/-! ### the head's facts: defs by paths, facts, dicts, tables, one Bool more -/
structure DefP where
  at_ : PySem.W.Frag → Addr
  name : Str
  qual : Str
  params : Arguments
  body : List Stmt
  scope : Scope
  dfl : List He.Dv := []
  kwd : List (Str × He.Dv) := []
def fnWA (K : PySem.W.Frag) (a : Addr) : He.FnW := match K.lookup a with
  | some ⟨_, _, .func q, _⟩ => some (q.name, q.qualname, q.params, q.body, q.scope, q.globals, q.closure, q.builtins)
  | _ => none
def DefP.val (d : DefP) : He.FnW := some (d.name, d.qual, d.params, .stmts d.body, d.scope, mainGlobals, [], builtinsNs)
def DefP.dvs (K : PySem.W.Frag) (d : DefP) : List V := d.dfl.map (He.Dv.v K)
def DefP.kws (K : PySem.W.Frag) (d : DefP) : List (Str × V) := d.kwd.map fun q => (q.1, q.2.v K)
def DefP.okA (K : PySem.W.Frag) (d : DefP) : Bool := match K.lookup (d.at_ K) with
  | some ⟨_, _, .func q, _⟩ => PySem.W.codeIn K q.code d.qual && (He.dflB K q.defaults (d.dvs K) && He.kwdB K q.kwdefaults (d.kws K))
  | _ => false
def DefP.ok (K : PySem.W.Frag) (d : DefP) : Bool := PySem.W.keepIn K (.ref (d.at_ K)) && d.okA K
theorem DefP.funD {K : PySem.W.Frag} {d : DefP} (e : fnWA K (d.at_ K) = d.val) (c : d.ok K = true) : ∃ fd, FunD K d.name d.qual d.params d.body d.scope (d.dvs K) (d.kws K) (d.at_ K) fd := by
  obtain ⟨kp, c2⟩ := He.ba c
  unfold DefP.okA at c2
  unfold fnWA at e
  split at c2
  · rename_i oc od q osl hl
    rw [hl] at e
    obtain ⟨n1, n2, n3, n4, n5, n6, n7, n8, n9, n10, n11, n12, n13, n14, n15⟩ := q
    obtain ⟨k1, k2⟩ := He.ba c2
    obtain ⟨k3, k4⟩ := He.ba k2
    have z := Option.some.inj (show (some (n1, n2, n3, n4, n5, n6, n7, n15) : He.FnW) = some (d.name, d.qual, d.params, .stmts d.body, d.scope, mainGlobals, [], builtinsNs) from e)
    simp only [Prod.mk.injEq] at z
    obtain ⟨h1, h2, h3, h4, h5, h6, h7, h8⟩ := z
    subst h1 h2 h3 h4 h5 h6 h7 h8
    exact ⟨_, ⟨oc, od, n8, n9, n10, n11, n12, n13, n14, osl, rfl, hl, k1, He.dflB_ok k3, He.kwdB_ok k4⟩, kp⟩
  · exact nomatch c2
/-- a property's getter -/
def propAt (C m : Str) (K : PySem.W.Frag) : Addr := match PySem.W.findIn K (.ref (He.ga K C)) m with
  | some (some (.ref p)) => (match PySem.W.recIn K p "property" with
    | some (.ref g :: _) => g
    | _ => 0)
  | _ => 0
/-- a classmethod's def -/
def cmAt (C m : Str) (K : PySem.W.Frag) : Addr := match PySem.W.findIn K (.ref (He.ga K C)) m with
  | some (some (.ref p)) => (match PySem.W.recIn K p "classmethod" with
    | some (.ref g :: _) => g
    | _ => 0)
  | _ => 0
abbrev AlZ : Type := (Bool × List He.FnW) × (List (Option (List (Option (Str × Int)))) × Bool)
structure HeadS where
  as : (Addr → Option Obj) → List Addr
  fa : List He.Fa
  ps : List DefP
  ts : List He.Tab
  tf : List He.Defn
  ex : PySem.W.Frag → Bool
def HeadS.K (D : HeadS) (g : Addr → Option Obj) : PySem.W.Frag := He.frT g (D.as g)
def HeadS.obsK (D : HeadS) (g : Addr → Option Obj) (K : PySem.W.Frag) : AlZ := (((D.fa.all fun f => f.ok K) && D.ps.all fun d => d.ok K, D.ps.map fun d => fnWA K (d.at_ K)), (D.ts.map fun t => He.dicW K (t.1 K), D.ex K && He.tabsB g D.tf K))
def HeadS.obs (D : HeadS) (g : Addr → Option Obj) : AlZ := D.obsK g (D.K g)
def HeadS.val (D : HeadS) (w : World) : AlZ := ((true, D.ps.map DefP.val), (D.ts.map fun t => some (He.keysIn w.params t.2), true))
structure HeadS.Says (D : HeadS) (w : World) (h : Heap) (K : PySem.W.Frag) : Prop where
  fact : ∀ f ∈ D.fa, f.ok K = true
  def_ : ∀ d ∈ D.ps, ∃ fd, FunD K d.name d.qual d.params d.body d.scope (d.dvs K) (d.kws K) (d.at_ K) fd
  tab : ∀ t ∈ D.ts, ∃ es n, KDict K w (t.1 K) es n
  more : D.ex K = true
  hd : ∀ p ∈ D.tf, PySem.W.codeHdIn K (He.cT K p).1 (He.cT K p).2 = true
  out : ∀ p ∈ D.tf, K.lookup (He.cT K p).2 = none
  empty : ∀ p ∈ D.tf, h.get? (He.cT K p).2 = some { cls := .none, data := .fields #[] }
theorem map_at {α β : Type} {f g : α → β} : ∀ {l : List α}, l.map f = l.map g → ∀ a ∈ l, f a = g a
  | [], _, _, h => nomatch h
  | b :: r, e, a, h => by
    rw [(List.map_cons), List.map_cons] at e
    obtain ⟨e1, e2⟩ := List.cons.inj e
    obtain rfl | h := List.mem_cons.mp h
    · exact e1
    · exact map_at e2 a h
theorem HeadS.says_of {D : HeadS} {w : World} {h : Heap} (e : D.obs h.get? = D.val w) : D.Says w h (D.K h.get?) := by
  have e1 : (((D.fa.all fun f => f.ok (D.K h.get?)) && D.ps.all fun d => d.ok (D.K h.get?)) = true) := congrArg (fun z : AlZ => z.1.1) e
  have e2 : D.ps.map (fun d => fnWA (D.K h.get?) (d.at_ (D.K h.get?))) = D.ps.map DefP.val := congrArg (fun z : AlZ => z.1.2) e
  have e3 : D.ts.map (fun t => He.dicW (D.K h.get?) (t.1 (D.K h.get?))) = D.ts.map fun t => some (He.keysIn w.params t.2) := congrArg (fun z : AlZ => z.2.1) e
  have e4 : (D.ex (D.K h.get?) && He.tabsB h.get? D.tf (D.K h.get?)) = true := congrArg (fun z : AlZ => z.2.2) e
  obtain ⟨f1, f2⟩ := He.ba e1
  obtain ⟨g1, g2⟩ := He.ba e4
  have key : ∀ p ∈ D.tf, PySem.W.codeHdIn (D.K h.get?) (He.cT (D.K h.get?) p).1 (He.cT (D.K h.get?) p).2 = true ∧ ∃ o, h.get? (He.cT (D.K h.get?) p).2 = some o ∧ He.emptyTab o = true := fun p hp => by
    obtain ⟨k1, k2⟩ := He.ba (List.all_eq_true.mp g2 p hp)
    refine ⟨k1, ?_⟩
    split at k2
    · rename_i o ho
      exact ⟨o, ho, k2⟩
    · exact nomatch k2
  exact ⟨fun f hf => List.all_eq_true.mp f1 f hf, fun d hd => DefP.funD (map_at e2 d hd) (List.all_eq_true.mp f2 d hd), fun t ht => He.dicW_ok (map_at e3 t ht), g1, fun p hp => (key p hp).1,
    fun p hp => by obtain ⟨_, o, q, z⟩ := key p hp; exact He.frT_none q z, fun p hp => by obtain ⟨_, o, q, z⟩ := key p hp; rw [q, He.emptyTab_eq z]⟩
def HeadS.hook (D : HeadS) : PySem.W.Hook where
  α := AlZ
  obs := fun s => D.obs s.heap.get?
  val := D.val
  says := fun w h => ∃ K : PySem.W.Frag, K.In h ∧ D.Says w h K
  of := fun _ _ e => ⟨_, He.frT_in, HeadS.says_of e⟩
  keeps := fun _ _ _ ⟨K, hK, c⟩ k => ⟨K, PySem.W.Frag.In.keeps hK k, ⟨c.fact, c.def_, c.tab, c.more, c.hd, c.out, fun p hp => k _ _ (c.empty p hp)⟩⟩
theorem HeadS.obs_eq (D : HeadS) (s : PySem.W.SharedT) : D.obs (HandSHeadRun.getT s) = D.hook.obs s.abs := by
  have e : HandSHeadRun.getT s = s.abs.heap.get? := funext (HandSHeadRun.getT_eq s)
  show D.obs _ = D.obs _
  rw [e]
theorem HeadS.Says.fct {D : HeadS} {w : World} {h : Heap} {K : PySem.W.Frag} (c : D.Says w h K) (i : Nat) {f : He.Fa} (e : D.fa[i]? = some f := by rfl) : f.ok K = true := c.fact f (List.mem_of_getElem? e)
theorem HeadS.Says.dff {D : HeadS} {w : World} {h : Heap} {K : PySem.W.Frag} (c : D.Says w h K) (i : Nat) {d : DefP} (e : D.ps[i]? = some d := by rfl) : ∃ fd, FunD K d.name d.qual d.params d.body d.scope (d.dvs K) (d.kws K) (d.at_ K) fd := c.def_ d (List.mem_of_getElem? e)
theorem HeadS.Says.tb {D : HeadS} {w : World} {h : Heap} {K : PySem.W.Frag} (c : D.Says w h K) (i : Nat) {t : He.Tab} (e : D.ts[i]? = some t := by rfl) : ∃ es n, KDict K w (t.1 K) es n := c.tab t (List.mem_of_getElem? e)
end SV
set_option maxHeartbeats 3999999
namespace SV
open PySem PySem.Spec
open PyProof.Rows L2 LamX NdefX
/-! ### a def read from its class -/
def fcB (r : Option PySem.W.CFound) (C g : Addr) : Bool := match r with
  | some (.val b) => decide (b = .ref g)
  | _ => false
theorem fcB_ok {r : Option PySem.W.CFound} {C g : Addr} (h : fcB r C g = true) : r = some (.val (.ref g)) := by
  unfold fcB at h
  split at h
  · rw [of_decide_eq_true h]
  · exact nomatch h
def cfnB (K : PySem.W.Frag) (C : Addr) (m : Str) (g : Addr) : Bool := PySem.W.readsIn K C (.type "type") && (He.eqO (PySem.W.specialIn K (.ref C) "__getattribute__") (some (some (.builtin "type.__getattribute__"))) &&
  (fcB (PySem.W.findCls K (.ref C) (.type "type") m) C g && (decide (PySem.W.typeIn K (.ref g) = some (.type "function")) && PySem.W.keepIn K (.ref g))))
theorem cfnB_ok {K : PySem.W.Frag} {C : Addr} {m : Str} {g : Addr} (h : cfnB K C m g = true) : ∃ mc, CFn K C mc m g := by
  obtain ⟨h1, h⟩ := He.ba h
  obtain ⟨h2, h⟩ := He.ba h
  obtain ⟨h3, h⟩ := He.ba h
  obtain ⟨h4, h5⟩ := He.ba h
  exact ⟨_, ⟨h1, He.eqO_ok h2⟩, fcB_ok h3, of_decide_eq_true h4, h5⟩
/-! ### what calls bind -/
section
variable {K : PySem.W.Frag} {fd : FuncData} {ps : List Str}
theorem kbn_plain (b : Binds K fd ps []) : KBn K fd ps ps.length [] (fun us _ => us) (fun vs _ => vs) :=
  ⟨fun s us ws X l1 l2 => by
    have e := b s us X (by rw [List.append_nil]; exact l1)
    rw [List.append_nil] at e
    exact e, fun r _ => r⟩
theorem kbn_kw {x qual : Str} {params : Arguments} {body : List Stmt} {scope : Scope} {kws : List (Str × V)} {f : Addr} (F : FunD K x qual params body scope [] kws f fd) (n : Nat) (ks : List Str) (g : {α : Type} → List α → List α → List α)
    (hrel : ∀ {vs zs : List V} {us ws : List Value}, Vals vs us → Vals zs ws → Vals (g vs zs) (g us ws))
    (h : ∀ (kV doc pm : Value) (an : Option Addr) (cdv ct : Value) (us ws : List Value), us.length = n → ws.length = ks.length → bindArgs (PySem.W.fnOf x qual params body scope .none kV doc pm an cdv ct) ⟨us, ks.zip ws⟩ = pure (ps.zip (g us ws))) : KBn K fd ps n ks (fun us ws => g us ws) (fun vs zs => g vs zs) := by
  obtain ⟨oc, od, dV, kV, doc, pm, an, cdv, ct, osl, rfl, lk, hcd, hD, _hK⟩ := F.ex
  obtain ⟨_, rfl⟩ | ⟨e, _⟩ := hD
  · exact ⟨fun s us ws X l1 l2 => BindsTo.of_eq (h kV doc pm an cdv ct us ws l1 l2), fun r1 r2 => hrel r1 r2⟩
  · exact absurd rfl e
end
/-- the objects that the module reaches -/
def asZ (n : Nat) (g : Addr → Option Obj) : List Addr := He.asD g n ++ [PySem.cStatics]
end SV
namespace SV
def okT (r : Res IV) : Bool := match r with
  | .ok (.bl true) _ => true
  | _ => false
theorem okT_ok {r : Res IV} (h : okT r = true) : ∃ h', r = .ok (.bl true) h' := by
  unfold okT at h
  split at h
  · exact ⟨_, rfl⟩
  · exact nomatch h
end SV
namespace SV
open PySem PySem.Spec
open PyProof.Rows L2
/-- (a, b, ..) = a tuple, a list -/
def egTL (n : Nat) (g : EvGs) : EvG := fun v σ h => match v with
  | .tup xs => cond (Nat.beq xs.length n) (g xs σ h) .bad
  | .ref i => (match h.items i with
    | some xs => cond (Nat.beq xs.length n) (g xs σ h) .bad
    | none => .bad)
  | _ => .bad
theorem sg_tl {T : Tab} {X : Cx} {pos : Pos} {es : List Expr} {k : Nat} {n : Nat} {g : EvGs} (hK : X.K = T.K) (hc : X.calm = true) (h : SGs T X es g) (hn : (assignEach es X.env).length = n := by rfl) (hst : (assignEach es X.env).findIdx? (·.1) = none := by rfl) : SG T X (.Tuple es k pos) (egTL n g) := fun W tk =>
  PG.mk fun pins s σ H v u Q I r ⟨ι, hp, σi, x, R, S, rv, P⟩ => by
    unfold egTL at P
    split at P
    · rename_i xs
      exact (sg_t (pos := pos) (k := k) hK hc h hn hst W tk).run pins s σ H v u Q I r ⟨ι, hp, σi, .tup xs, R, S, rv, P⟩
    · rename_i i
      split at P
      · rename_i xs hx
        cases q : Nat.beq xs.length n with
        | false => rw [q] at P; exact P.elim
        | true =>
          rw [q] at P
          obtain ⟨a, vs, rfl, _, h1, r1⟩ := R.seq hx rv
          exact (pg_lst (k := k) (pos := pos) hc (h W tk) hn hst).run pins s σ H _ u Q I r ⟨_, _, rfl, by rw [hK]; exact h1, by rw [← r1.length]; exact Nat.eq_of_beq_eq_true q, ι, hp, σi, _, R, S, r1, P⟩
      · exact P.elim
    · exact P.elim
end SV
set_option maxHeartbeats 3999999
namespace SV
open PySem PySem.Spec
open PyProof.Rows L2
/-! ### objects that nobody reads any more may be forgotten -/
def refsV : Nat → IV → List Nat
  | 0, _ => []
  | k + 1, x => match x with
    | .ref i => [i]
    | .tup xs => xs.flatMap (refsV k)
    | _ => []
def refsIO : IO → List Nat
  | .lst xs => xs.flatMap (refsV 9)
  | .frz xs => xs.flatMap (refsV 9)
  | .dct _ kvs => kvs.flatMap fun kv => refsV 9 kv.1 ++ refsV 9 kv.2
  | .fdc _ kvs => kvs.flatMap fun kv => refsV 9 kv.1 ++ refsV 9 kv.2
  | .ins _ fs => fs.flatMap fun q => refsV 9 q.2
def hasK (i : Nat) : List (Nat × IO) → Bool
  | [] => false
  | q :: r => cond (Nat.beq q.1 i) true (hasK i r)
/-- what is reached, but for the object 0 -/
def live : Nat → IHeap → List Nat → List (Nat × IO) → List (Nat × IO)
  | 0, _, _, acc => acc
  | _ + 1, _, [], acc => acc
  | k + 1, h, i :: todo, acc => cond (Nat.beq i 0 || hasK i acc) (live k h todo acc) (match h.get i with
    | some o => live k h (refsIO o ++ todo) ((i, o) :: acc)
    | none => live k h todo acc)
def mkTr (L : List (Nat × IO)) : Tr := L.foldl (fun t q => Tr.putF q.1 t q.1 q.2) .lf
/-- a heap of these objects; o at 0 -/
def mkH (o : Option IO) (n : Nat) (L : List (Nat × IO)) : IHeap := ⟨n, .nd o (mkTr L).left (mkTr L).right⟩
def trim (h : IHeap) (roots : List Nat) : IHeap := mkH (h.get 0) h.n (live 1000000 h roots [])
theorem live_ok {h : IHeap} : ∀ (k : Nat) (todo : List Nat) (acc : List (Nat × IO)), (∀ q ∈ acc, h.get q.1 = some q.2) → ∀ q ∈ live k h todo acc, h.get q.1 = some q.2
  | 0, _, _, a => a
  | _ + 1, [], _, a => a
  | k + 1, i :: todo, acc, a => by
    unfold live
    cases Nat.beq i 0 || hasK i acc with
    | true => exact live_ok k todo acc a
    | false =>
      show ∀ q ∈ (match h.get i with
        | some o => live k h (refsIO o ++ todo) ((i, o) :: acc)
        | none => live k h todo acc), _
      cases e : h.get i with
      | none => exact live_ok k todo acc a
      | some o => exact live_ok k _ _ fun q hq => (List.mem_cons.mp hq).elim (fun z => by rw [z]; exact e) (a q)
theorem mkTr_ok {h : IHeap} : ∀ (L : List (Nat × IO)) (t : Tr), (∀ i o, t.get i = some o → h.get i = some o) → (∀ q ∈ L, h.get q.1 = some q.2) → ∀ i o, (L.foldl (fun t q => Tr.putF q.1 t q.1 q.2) t).get i = some o → h.get i = some o
  | [], _, a, _ => a
  | q :: r, t, a, b => mkTr_ok r _ (fun i o e => by
      rw [Tr.get_putF q.2 q.1 t q.1 i (Nat.le_refl _)] at e
      by_cases z : i = q.1
      · rw [if_pos z] at e; rw [z, b q List.mem_cons_self, e]
      · rw [if_neg z] at e; exact a i o e) fun p hp => b p (List.mem_cons_of_mem _ hp)
theorem trim_sub {h : IHeap} {roots : List Nat} {i : Nat} {o : IO} (e : (trim h roots).get i = some o) : h.get i = some o := by
  have all := mkTr_ok (h := h) (live 1000000 h roots []) .lf (fun i o e => nomatch e) (live_ok _ _ _ fun q hq => nomatch hq)
  have e : (Tr.nd (h.get 0) (mkTr (live 1000000 h roots [])).left (mkTr (live 1000000 h roots [])).right).get i = some o := e
  rw [Tr.get_eq] at e
  by_cases z : i = 0
  · rw [if_pos z] at e; rw [z]; exact e
  · rw [if_neg z] at e
    refine all i o ?_
    show (mkTr (live 1000000 h roots [])).get i = some o
    rw [Tr.get_eq, if_neg z]
    exact e
section
variable {T : Tab} {X : Cx} {W : WX} {σ : Sl} {σi : ISt} {ι : List Addr} {hp hp' : IHeap} {H : Hp}
theorem Rel.sub (R : Rel T ι hp H) (hn : hp'.n = hp.n) (hs : ∀ i o, hp'.get i = some o → hp.get i = some o) : Rel T ι hp' H :=
  ⟨R.len.trans hn.symm, fun i j oi oj a hi hj => R.nd i j oi oj a (hs i oi hi) (hs j oj hj), fun i o hi => R.ob i o (hs i o hi), fun i o hi => by rw [hn]; exact R.dom i o (hs i o hi), R.tb⟩
theorem Rel.trim (R : Rel T ι hp H) (roots : List Nat) : Rel T ι (SV.trim hp roots) H := R.sub rfl fun _ _ e => trim_sub e
def rootsS (σ : ISt) : List Nat := σ.flatMap fun o => match o with
  | some x => refsV 9 x
  | none => []
def gcR (r : RS) : RS := match r with
  | .nx σ h => .nx σ (trim h (rootsS σ))
  | r => r
/-- a statement, then only what the names reach is known -/
def esGc (f : EvS) : EvS := fun σ h => gcR (f σ h)
theorem ss_gc {st : Stmt} {f : EvS} (h : SS T X st f) : SS T X st (esGc f) := fun W tk => (h W tk).imp fun D σ H ⟨ι, hp, σi, R, S, P⟩ => by
  refine ⟨ι, hp, σi, R, S, ?_⟩
  revert P
  unfold esGc
  cases f σi hp with
  | nx σ1 h1 => exact fun P ι' H' σ' R' e' S' => P ι' H' σ' (R'.trim _) e' S'
  | _ => exact fun P => P
def gcQ (r : Res IV) (xs : List IV) : Res IV := match r with
  | .ok v h => .ok v (trim h (refsV 9 v ++ xs.flatMap (refsV 9)))
  | r => r
/-- a def, then only its arguments and its value are known -/
def evGc (g : List IV → IHeap → Res IV) : List IV → IHeap → Res IV := fun xs h => gcQ (g xs h) xs
theorem fnS_gc {P : Program} {w : World} {mg : Str → Option Value} {base : Heap} {k : Nat} {f : Addr} {g : List IV → IHeap → Res IV} (F : FnS T P w mg base k f g) : FnS T P w mg base k f (evGc g) := fun A outer s H us vs Q E hr e0 r ⟨ι, hp, xs, R, rv, q⟩ =>
  F A outer s H us vs Q E hr e0 r ⟨ι, hp, xs, R, rv, by
    revert q
    unfold evGc
    cases g xs hp with
    | ok v h1 => exact fun q ι' H' V R' e' r' => q ι' H' V (R'.trim _) e' r'
    | _ => exact fun q => q⟩
end
/-! ### from checkpoint to checkpoint -/
theorem seq_nx {f g : EvS} {σ σ1 : ISt} {h h1 : IHeap} (e : f σ h = .nx σ1 h1) : esSeq f g σ h = g σ1 h1 := by
  unfold esSeq
  rw [e]; rfl
end SV
namespace SV
theorem gc_call {g : List IV → IHeap → Res IV} {b l : EvS} {m : Nat} {h hk : IHeap} {σ : ISt} (u : g = evGc (evFn 0 m b)) (e : b (List.replicate m none) h = l σ hk) : g [] h = gcQ (endF (l σ hk)) [] := by
  subst u
  show gcQ (endF (b (List.replicate m none) h)) [] = _
  rw [e]
end SV
set_option maxHeartbeats 3999999
namespace Gk45
open PySem PySem.Spec
open PyProof.Rows L2 SV
open NdefX (ndef_free ndef_fr nscope_by)

def top (i : Nat) : Stmt := PySem.Challenge.pw_sliverhold_k45_known_all.main.body.getD i (.Pass ⟨0, 0, 0, 0⟩)
abbrev Cz (T : Tab) (P : Program) (w : World) (mg : Str → Option Value) (base : Heap) (N : List Str) (st : Stmt) (qual : Str) (f : Addr) (cdv : Value) (A : Around) (outer : List Env) (s : Shared) (H : Hp) (E : XK) : Cx :=
  cxOf (L2.CX P w) P w T.K mg base N qual (defScope st) f cdv A outer s H E
def c_MAX_OFFERS : IV := .int 4
def c_MAX_PRICE : IV := .int 9
def c_MAX_STANDS : IV := .int 1000
def c_MAX_STEPS : IV := .int 12
def c_MAX_WIDTH : IV := .int 6
def l_NAMES : List Str := [⟨#[97]⟩, ⟨#[98]⟩, ⟨#[99]⟩]
def c_NAMES : IV := .tup (l_NAMES.map .str)
def c_SHAPES : IV := .kd 0
def l_THINGS : List Str := [⟨#[98, 117, 102, 102, 101, 114]⟩, ⟨#[99, 101, 108, 108]⟩]
def c_THINGS : IV := .tup (l_THINGS.map .str)
def c_TIGHT : IV := .kd 1
/-- what the module's names hold -/
structure Mg (T : Tab) (mg : Str → Option Value) : Prop where
  g_Apart : mg "Apart" = some (.ref (T.ca 18))
  k_Apart : PySem.W.keepIn T.K (.ref (T.ca 18)) = true
  g_AtMost : mg "AtMost" = some (.ref (T.ca 12))
  k_AtMost : PySem.W.keepIn T.K (.ref (T.ca 12)) = true
  g_BadPath : mg "BadPath" = some (.ref (T.ca 2))
  k_BadPath : PySem.W.keepIn T.K (.ref (T.ca 2)) = true
  c_MAX_OFFERS : GlV T mg "MAX_OFFERS" c_MAX_OFFERS
  c_MAX_PRICE : GlV T mg "MAX_PRICE" c_MAX_PRICE
  c_MAX_STANDS : GlV T mg "MAX_STANDS" c_MAX_STANDS
  c_MAX_STEPS : GlV T mg "MAX_STEPS" c_MAX_STEPS
  c_MAX_WIDTH : GlV T mg "MAX_WIDTH" c_MAX_WIDTH
  g_Meets : mg "Meets" = some (.ref (T.ca 17))
  k_Meets : PySem.W.keepIn T.K (.ref (T.ca 17)) = true
  c_NAMES : GlV T mg "NAMES" c_NAMES
  i_NAMES : GlI T mg "NAMES" l_NAMES
  g_NoBound : mg "NoBound" = some (.ref (T.ca 13))
  k_NoBound : PySem.W.keepIn T.K (.ref (T.ca 13)) = true
  g_NotTightened : mg "NotTightened" = some (.ref (T.ca 16))
  k_NotTightened : PySem.W.keepIn T.K (.ref (T.ca 16)) = true
  g_Over : mg "Over" = some (.ref (T.ca 14))
  k_Over : PySem.W.keepIn T.K (.ref (T.ca 14)) = true
  g_Program : mg "Program" = some (.ref (T.ca 9))
  k_Program : PySem.W.keepIn T.K (.ref (T.ca 9)) = true
  c_SHAPES : GlV T mg "SHAPES" c_SHAPES
  c_THINGS : GlV T mg "THINGS" c_THINGS
  i_THINGS : GlI T mg "THINGS" l_THINGS
  c_TIGHT : GlV T mg "TIGHT" c_TIGHT
  g_Tightened : mg "Tightened" = some (.ref (T.ca 15))
  k_Tightened : PySem.W.keepIn T.K (.ref (T.ca 15)) = true
  g_Way : mg "Way" = some (.ref (T.ca 11))
  k_Way : PySem.W.keepIn T.K (.ref (T.ca 11)) = true
  g__law_cuts : mg "_law_cuts" = some (.ref (T.fa 89))
  k__law_cuts : PySem.W.keepIn T.K (.ref (T.fa 89)) = true
  g__law_meeting_right : mg "_law_meeting_right" = some (.ref (T.fa 90))
  k__law_meeting_right : PySem.W.keepIn T.K (.ref (T.fa 90)) = true
  g__law_tight_right : mg "_law_tight_right" = some (.ref (T.fa 91))
  k__law_tight_right : PySem.W.keepIn T.K (.ref (T.fa 91)) = true
  g__wall : mg "_wall" = some (.ref (T.fa 0))
  k__wall : PySem.W.keepIn T.K (.ref (T.fa 0)) = true
  g_act : mg "act" = some (.ref (T.fa 22))
  k_act : PySem.W.keepIn T.K (.ref (T.fa 22)) = true
  g_after : mg "after" = some (.ref (T.fa 26))
  k_after : PySem.W.keepIn T.K (.ref (T.fa 26)) = true
  n_all : mg "all" = none
  g_answer_to : mg "answer_to" = some (.ref (T.fa 61))
  k_answer_to : PySem.W.keepIn T.K (.ref (T.fa 61)) = true
  n_any : mg "any" = none
  g_are_against_lots : mg "are_against_lots" = some (.ref (T.fa 63))
  k_are_against_lots : PySem.W.keepIn T.K (.ref (T.fa 63)) = true
  g_are_heights : mg "are_heights" = some (.ref (T.fa 35))
  k_are_heights : PySem.W.keepIn T.K (.ref (T.fa 35)) = true
  n_bool : mg "bool" = none
  g_bound_of : mg "bound_of" = some (.ref (T.fa 53))
  k_bound_of : PySem.W.keepIn T.K (.ref (T.fa 53)) = true
  g_can_meet : mg "can_meet" = some (.ref (T.fa 87))
  k_can_meet : PySem.W.keepIn T.K (.ref (T.fa 87)) = true
  g_check_all : mg "check_all" = some (.ref (T.fa 57))
  k_check_all : PySem.W.keepIn T.K (.ref (T.fa 57)) = true
  g_check_any : mg "check_any" = some (.ref (T.fa 54))
  k_check_any : PySem.W.keepIn T.K (.ref (T.fa 54)) = true
  g_check_limit : mg "check_limit" = some (.ref (T.fa 45))
  k_check_limit : PySem.W.keepIn T.K (.ref (T.fa 45)) = true
  g_check_meeting : mg "check_meeting" = some (.ref (T.fa 83))
  k_check_meeting : PySem.W.keepIn T.K (.ref (T.fa 83)) = true
  g_check_offers : mg "check_offers" = some (.ref (T.fa 56))
  k_check_offers : PySem.W.keepIn T.K (.ref (T.fa 56)) = true
  g_check_place : mg "check_place" = some (.ref (T.fa 80))
  k_check_place : PySem.W.keepIn T.K (.ref (T.fa 80)) = true
  g_check_program : mg "check_program" = some (.ref (T.fa 14))
  k_check_program : PySem.W.keepIn T.K (.ref (T.fa 14)) = true
  g_check_thing : mg "check_thing" = some (.ref (T.fa 81))
  k_check_thing : PySem.W.keepIn T.K (.ref (T.fa 81)) = true
  n_dict : mg "dict" = none
  g_does_meet : mg "does_meet" = some (.ref (T.fa 84))
  k_does_meet : PySem.W.keepIn T.K (.ref (T.fa 84)) = true
  n_enumerate : mg "enumerate" = none
  g_explored : mg "explored" = some (.ref (T.fa 46))
  k_explored : PySem.W.keepIn T.K (.ref (T.fa 46)) = true
  g_fits : mg "fits" = some (.ref (T.fa 4))
  k_fits : PySem.W.keepIn T.K (.ref (T.fa 4)) = true
  g_followed : mg "followed" = some (.ref (T.fa 30))
  k_followed : PySem.W.keepIn T.K (.ref (T.fa 30)) = true
  g_fresh : mg "fresh" = some (.ref (T.fa 17))
  k_fresh : PySem.W.keepIn T.K (.ref (T.fa 17)) = true
  n_int : mg "int" = none
  g_is_against_lot : mg "is_against_lot" = some (.ref (T.fa 62))
  k_is_against_lot : PySem.W.keepIn T.K (.ref (T.fa 62)) = true
  g_is_clear : mg "is_clear" = some (.ref (T.fa 28))
  k_is_clear : PySem.W.keepIn T.K (.ref (T.fa 28)) = true
  g_is_integer : mg "is_integer" = some (.ref (T.fa 3))
  k_is_integer : PySem.W.keepIn T.K (.ref (T.fa 3)) = true
  g_is_register : mg "is_register" = some (.ref (T.fa 82))
  k_is_register : PySem.W.keepIn T.K (.ref (T.fa 82)) = true
  g_is_spot : mg "is_spot" = some (.ref (T.fa 55))
  k_is_spot : PySem.W.keepIn T.K (.ref (T.fa 55)) = true
  g_is_step : mg "is_step" = some (.ref (T.fa 5))
  k_is_step : PySem.W.keepIn T.K (.ref (T.fa 5)) = true
  g_is_whole : mg "is_whole" = some (.ref (T.fa 16))
  k_is_whole : PySem.W.keepIn T.K (.ref (T.fa 16)) = true
  n_isinstance : mg "isinstance" = none
  g_joined : mg "joined" = some (.ref (T.fa 19))
  k_joined : PySem.W.keepIn T.K (.ref (T.fa 19)) = true
  g_later_of : mg "later_of" = some (.ref (T.fa 29))
  k_later_of : PySem.W.keepIn T.K (.ref (T.fa 29)) = true
  g_least_price : mg "least_price" = some (.ref (T.fa 73))
  k_least_price : PySem.W.keepIn T.K (.ref (T.fa 73)) = true
  n_len : mg "len" = none
  n_list : mg "list" = none
  g_lots : mg "lots" = some (.ref (T.fa 70))
  k_lots : PySem.W.keepIn T.K (.ref (T.fa 70)) = true
  g_lots_of : mg "lots_of" = some (.ref (T.fa 59))
  k_lots_of : PySem.W.keepIn T.K (.ref (T.fa 59)) = true
  g_made : mg "made" = some (.ref (T.fa 21))
  k_made : PySem.W.keepIn T.K (.ref (T.fa 21)) = true
  n_max : mg "max" = none
  g_meet : mg "meet" = some (.ref (T.fa 86))
  k_meet : PySem.W.keepIn T.K (.ref (T.fa 86)) = true
  g_met : mg "met" = some (.ref (T.fa 85))
  k_met : PySem.W.keepIn T.K (.ref (T.fa 85)) = true
  n_min : mg "min" = none
  g_pairs_that_meet : mg "pairs_that_meet" = some (.ref (T.fa 88))
  k_pairs_that_meet : PySem.W.keepIn T.K (.ref (T.fa 88)) = true
  g_part : mg "part" = some (.ref (T.fa 18))
  k_part : PySem.W.keepIn T.K (.ref (T.fa 18)) = true
  g_path_of : mg "path_of" = some (.ref (T.fa 48))
  k_path_of : PySem.W.keepIn T.K (.ref (T.fa 48)) = true
  g_price_of : mg "price_of" = some (.ref (T.fa 58))
  k_price_of : PySem.W.keepIn T.K (.ref (T.fa 58)) = true
  g_raised : mg "raised" = some (.ref (T.fa 51))
  k_raised : PySem.W.keepIn T.K (.ref (T.fa 51)) = true
  n_range : mg "range" = none
  g_ring_of : mg "ring_of" = some (.ref (T.fa 50))
  k_ring_of : PySem.W.keepIn T.K (.ref (T.fa 50)) = true
  g_road : mg "road" = some (.ref (T.fa 47))
  k_road : PySem.W.keepIn T.K (.ref (T.fa 47)) = true
  g_road_round : mg "road_round" = some (.ref (T.fa 49))
  k_road_round : PySem.W.keepIn T.K (.ref (T.fa 49)) = true
  g_settled : mg "settled" = some (.ref (T.fa 23))
  k_settled : PySem.W.keepIn T.K (.ref (T.fa 23)) = true
  g_shelved : mg "shelved" = some (.ref (T.fa 20))
  k_shelved : PySem.W.keepIn T.K (.ref (T.fa 20)) = true
  g_size_of : mg "size_of" = some (.ref (T.fa 15))
  k_size_of : PySem.W.keepIn T.K (.ref (T.fa 15)) = true
  n_sorted : mg "sorted" = none
  g_stands : mg "stands" = some (.ref (T.fa 31))
  k_stands : PySem.W.keepIn T.K (.ref (T.fa 31)) = true
  g_start_of : mg "start_of" = some (.ref (T.fa 25))
  k_start_of : PySem.W.keepIn T.K (.ref (T.fa 25)) = true
  n_str : mg "str" = none
  n_sum : mg "sum" = none
  g_tighten : mg "tighten" = some (.ref (T.fa 72))
  k_tighten : PySem.W.keepIn T.K (.ref (T.fa 72)) = true
  g_tightened : mg "tightened" = some (.ref (T.fa 71))
  k_tightened : PySem.W.keepIn T.K (.ref (T.fa 71)) = true
  g_top_road : mg "top_road" = some (.ref (T.fa 52))
  k_top_road : PySem.W.keepIn T.K (.ref (T.fa 52)) = true
  n_tuple : mg "tuple" = none
  g_turns : mg "turns" = some (.ref (T.fa 24))
  k_turns : PySem.W.keepIn T.K (.ref (T.fa 24)) = true
  g_walked : mg "walked" = some (.ref (T.fa 34))
  k_walked : PySem.W.keepIn T.K (.ref (T.fa 34)) = true
  g_waste_of : mg "waste_of" = some (.ref (T.fa 27))
  k_waste_of : PySem.W.keepIn T.K (.ref (T.fa 27)) = true
  g_with_lot : mg "with_lot" = some (.ref (T.fa 60))
  k_with_lot : PySem.W.keepIn T.K (.ref (T.fa 60)) = true
  n_zip : mg "zip" = none
  cf_Way_init : ∃ mc, CFn T.K (T.ca 11) mc "__init__" (T.fa 32)
  nm_part : ("part" : Str) = T.nm 0
  nm_index : ("index" : Str) = T.nm 1
  nm_wide : ("wide" : Str) = T.nm 2
  nm_count : ("count" : Str) = T.nm 3
  nm_rows : ("rows" : Str) = T.nm 4
  nm_many : ("many" : Str) = T.nm 5
  nm_steps : ("steps" : Str) = T.nm 6
  nm_width : ("width" : Str) = T.nm 7
  nm_path : ("path" : Str) = T.nm 8
  nm_number : ("number" : Str) = T.nm 9
  nm_heights : ("heights" : Str) = T.nm 10
  nm_ring : ("ring" : Str) = T.nm 11
  nm_shows : ("shows" : Str) = T.nm 12
  nm_lot : ("lot" : Str) = T.nm 13
  nm_bound : ("bound" : Str) = T.nm 14
  nm_others : ("others" : Str) = T.nm 15
  nm_stands : ("stands" : Str) = T.nm 16
  nm___eq__ : ("__eq__" : Str) = T.nm 17
  nm___len__ : ("__len__" : Str) = T.nm 18
  nm_keeps : ("keeps" : Str) = T.nm 19
  nm_end : ("end" : Str) = T.nm 20
def patOf (f : Nat) : Nat × List Str := (cond (Nat.blt f 6) (cond (Nat.blt f 3) (cond (Nat.blt f 1) (38, []) (cond (Nat.blt f 2) (41, []) (44, []))) (cond (Nat.blt f 4) (66, []) (cond (Nat.blt f 5) (69, []) (72, [("limit" : Str)])))) (cond (Nat.blt f 9) (cond (Nat.blt f 7) (76, []) (cond (Nat.blt f 8) (79, []) (72, []))) (cond (Nat.blt f 11) (cond (Nat.blt f 10) (73, []) (73, [("limit" : Str)])) (cond (Nat.blt f 12) (66, [("limit" : Str)]) (69, [("limit" : Str)])))))
theorem hjs_of {p : Pg} (Mp : ∀ j, p.pat j = patOf j) {js : List (Nat × Nat)} {ks : List Str} (h : ∀ q ∈ js, patOf q.2 = (q.1, ks)) : ∀ q ∈ js, p.pat q.2 = (q.1, ks) := fun q hq => (Mp _).trans (h q hq)
abbrev s__wall : Stmt := top 0
abbrev s_BadProgram_init : Stmt := inClass (top 3) 0
abbrev s_BadPath_init : Stmt := inClass (top 4) 0
abbrev s_is_integer : Stmt := top 12
abbrev s_fits : Stmt := top 18
abbrev s_is_step : Stmt := top 19
abbrev s_Program_init : Stmt := inClass (top 20) 0
abbrev s_Program_of : Stmt := inClass (top 20) 1
abbrev s_Program_width : Stmt := inClass (top 20) 2
abbrev s_Program_many : Stmt := inClass (top 20) 3
abbrev s_Program_steps : Stmt := inClass (top 20) 4
abbrev s_Program_eq : Stmt := inClass (top 20) 5
abbrev s_Program_len : Stmt := inClass (top 20) 6
abbrev s_Program_keeps : Stmt := inClass (top 20) 7
abbrev s_check_program : Stmt := top 21
abbrev s_size_of : Stmt := top 23
abbrev s_is_whole : Stmt := top 24
abbrev s_fresh : Stmt := top 25
abbrev s_part : Stmt := top 26
abbrev s_joined : Stmt := top 27
abbrev s_shelved : Stmt := top 28
abbrev s_made : Stmt := top 29
abbrev s_act : Stmt := top 30
abbrev s_settled : Stmt := top 31
abbrev s_turns : Stmt := top 32
abbrev s_start_of : Stmt := top 33
abbrev s_after : Stmt := top 34
abbrev s_waste_of : Stmt := top 35
abbrev s_is_clear : Stmt := top 36
abbrev s_later_of : Stmt := top 37
abbrev s_followed : Stmt := top 38
abbrev s_stands : Stmt := top 39
abbrev s_Way_init : Stmt := inClass (top 43) 0
abbrev s_Way_end : Stmt := inClass (top 43) 1
abbrev s_walked : Stmt := top 44
abbrev s_are_heights : Stmt := top 45
abbrev s_AtMost_init : Stmt := inClass (top 46) 0
abbrev s_AtMost_eq : Stmt := inClass (top 46) 1
abbrev s_AtMost_shows : Stmt := inClass (top 46) 2
abbrev s_NoBound_init : Stmt := inClass (top 47) 0
abbrev s_NoBound_eq : Stmt := inClass (top 47) 1
abbrev s_NoBound_shows : Stmt := inClass (top 47) 2
abbrev s_Over_init : Stmt := inClass (top 48) 0
abbrev s_Over_eq : Stmt := inClass (top 48) 1
abbrev s_Over_shows : Stmt := inClass (top 48) 2
abbrev s_check_limit : Stmt := top 49
abbrev s_explored : Stmt := top 50
abbrev s_road : Stmt := top 51
abbrev s_path_of : Stmt := top 52
abbrev s_road_round : Stmt := top 53
abbrev s_ring_of : Stmt := top 54
abbrev s_raised : Stmt := top 55
abbrev s_top_road : Stmt := top 56
abbrev s_bound_of : Stmt := top 57
abbrev s_check_any : Stmt := top 59
abbrev s_is_spot : Stmt := top 64
abbrev s_check_offers : Stmt := top 65
abbrev s_check_all : Stmt := top 66
abbrev s_price_of : Stmt := top 67
abbrev s_lots_of : Stmt := top 68
abbrev s_with_lot : Stmt := top 69
abbrev s_answer_to : Stmt := top 70
abbrev s_is_against_lot : Stmt := top 71
abbrev s_are_against_lots : Stmt := top 72
abbrev s_Tightened_init : Stmt := inClass (top 73) 0
abbrev s_Tightened_eq : Stmt := inClass (top 73) 1
abbrev s_Tightened_shows : Stmt := inClass (top 73) 2
abbrev s_NotTightened_init : Stmt := inClass (top 74) 0
abbrev s_NotTightened_eq : Stmt := inClass (top 74) 1
abbrev s_NotTightened_shows : Stmt := inClass (top 74) 2
abbrev s_lots : Stmt := top 75
abbrev s_tightened : Stmt := top 76
abbrev s_tighten : Stmt := top 77
abbrev s_least_price : Stmt := top 78
abbrev s_Meets_init : Stmt := inClass (top 81) 0
abbrev s_Meets_eq : Stmt := inClass (top 81) 1
abbrev s_Meets_shows : Stmt := inClass (top 81) 2
abbrev s_Apart_init : Stmt := inClass (top 82) 0
abbrev s_Apart_eq : Stmt := inClass (top 82) 1
abbrev s_Apart_shows : Stmt := inClass (top 82) 2
abbrev s_check_place : Stmt := top 83
abbrev s_check_thing : Stmt := top 84
abbrev s_is_register : Stmt := top 85
abbrev s_check_meeting : Stmt := top 86
abbrev s_does_meet : Stmt := top 87
abbrev s_met : Stmt := top 88
abbrev s_meet : Stmt := top 89
abbrev s_can_meet : Stmt := top 90
abbrev s_pairs_that_meet : Stmt := top 91
abbrev s__law_cuts : Stmt := top 93
abbrev s__law_meeting_right : Stmt := top 94
abbrev s__law_tight_right : Stmt := top 95
abbrev s_law : Stmt := top 96
def attT : List (Nat × Nat × Att) := [(9, 7, .prop 8), (9, 5, .prop 9), (9, 6, .prop 10), (9, 17, .meth 11), (9, 18, .meth 12), (9, 19, .meth 13), (9, 2, .fld), (9, 3, .fld), (9, 4, .fld), (11, 20, .meth 33), (11, 8, .fld), (12, 17, .meth 37), (12, 12, .meth 38), (12, 9, .fld), (12, 10, .fld), (12, 20, .meth 33), (12, 8, .fld), (13, 17, .meth 40), (13, 12, .meth 41), (13, 11, .fld), (13, 20, .meth 33), (13, 8, .fld), (14, 17, .meth 43), (14, 12, .meth 44), (14, 20, .meth 33), (14, 8, .fld), (15, 17, .meth 65), (15, 12, .meth 66), (15, 13, .fld), (15, 14, .fld), (15, 15, .fld), (16, 17, .meth 68), (16, 12, .meth 69), (16, 15, .fld), (17, 17, .meth 75), (17, 12, .meth 76), (17, 8, .fld), (18, 17, .meth 78), (18, 12, .meth 79), (18, 16, .fld)]
def iniT : List (Nat × Nat) := [(9, 6), (11, 32), (12, 36), (13, 39), (14, 42), (15, 64), (16, 67), (17, 74), (18, 77)]
def isiT : List (Nat × Nat × Bool) := [(0, 1, false), (1, 1, true), (2, 1, false), (3, 1, false), (4, 1, false), (5, 1, false), (6, 1, false), (19, 1, false), (20, 1, false), (21, 1, false), (22, 1, false), (23, 1, false), (24, 1, false), (25, 1, false), (26, 1, false), (27, 1, false), (28, 1, false), (0, 6, false), (1, 6, false), (2, 6, false), (3, 6, false), (4, 6, false), (5, 6, false), (6, 6, true), (19, 6, false), (20, 6, false), (21, 6, false), (22, 6, false), (23, 6, false), (24, 6, false), (25, 6, false), (26, 6, false), (27, 6, false), (28, 6, false), (0, 2, false), (1, 2, true), (2, 2, true), (3, 2, false), (4, 2, false), (5, 2, false), (6, 2, false), (19, 2, false), (20, 2, false), (21, 2, false), (22, 2, false), (23, 2, false), (24, 2, false), (25, 2, false), (26, 2, false), (27, 2, false), (28, 2, false), (0, 4, false), (1, 4, false), (2, 4, false), (3, 4, false), (4, 4, true), (5, 4, false), (6, 4, false), (19, 4, false), (20, 4, false), (21, 4, false), (22, 4, false), (23, 4, false), (24, 4, false), (25, 4, false), (26, 4, false), (27, 4, false), (28, 4, false), (0, 3, false), (1, 3, false), (2, 3, false), (3, 3, true), (4, 3, false), (5, 3, false), (6, 3, false), (19, 3, false), (20, 3, false), (21, 3, false), (22, 3, false), (23, 3, false), (24, 3, false), (25, 3, false), (26, 3, false), (27, 3, false), (28, 3, false), (0, 5, false), (1, 5, false), (2, 5, false), (3, 5, false), (4, 5, false), (5, 5, true), (6, 5, false), (19, 5, false), (20, 5, false), (21, 5, false), (22, 5, false), (23, 5, false), (24, 5, false), (25, 5, false), (26, 5, false), (27, 5, false), (28, 5, false), (0, 28, false), (1, 28, false), (2, 28, false), (3, 28, false), (4, 28, false), (5, 28, false), (6, 28, false), (19, 28, false), (20, 28, false), (21, 28, false), (22, 28, false), (23, 28, false), (24, 28, false), (25, 28, false), (26, 28, false), (27, 28, false), (28, 28, true), (0, 22, false), (1, 22, false), (2, 22, false), (3, 22, false), (4, 22, false), (5, 22, false), (6, 22, false), (19, 22, false), (20, 22, false), (21, 22, false), (22, 22, true), (23, 22, false), (24, 22, false), (25, 22, false), (26, 22, false), (27, 22, false), (28, 22, false), (0, 27, false), (1, 27, false), (2, 27, false), (3, 27, false), (4, 27, false), (5, 27, false), (6, 27, false), (19, 27, false), (20, 27, false), (21, 27, false), (22, 27, false), (23, 27, false), (24, 27, false), (25, 27, false), (26, 27, false), (27, 27, true), (28, 27, false), (0, 23, false), (1, 23, false), (2, 23, false), (3, 23, false), (4, 23, false), (5, 23, false), (6, 23, false), (19, 23, false), (20, 23, false), (21, 23, false), (22, 23, false), (23, 23, true), (24, 23, false), (25, 23, false), (26, 23, false), (27, 23, false), (28, 23, false), (0, 26, false), (1, 26, false), (2, 26, false), (3, 26, false), (4, 26, false), (5, 26, false), (6, 26, false), (19, 26, false), (20, 26, false), (21, 26, false), (22, 26, false), (23, 26, false), (24, 26, false), (25, 26, false), (26, 26, true), (27, 26, false), (28, 26, false), (0, 24, false), (1, 24, false), (2, 24, false), (3, 24, false), (4, 24, false), (5, 24, false), (6, 24, false), (19, 24, false), (20, 24, false), (21, 24, false), (22, 24, false), (23, 24, false), (24, 24, true), (25, 24, false), (26, 24, false), (27, 24, false), (28, 24, false), (0, 19, false), (1, 19, false), (2, 19, false), (3, 19, false), (4, 19, false), (5, 19, false), (6, 19, false), (19, 19, true), (20, 19, false), (21, 19, false), (22, 19, false), (23, 19, false), (24, 19, false), (25, 19, false), (26, 19, false), (27, 19, false), (28, 19, false), (0, 25, false), (1, 25, false), (2, 25, false), (3, 25, false), (4, 25, false), (5, 25, false), (6, 25, false), (19, 25, false), (20, 25, false), (21, 25, false), (22, 25, false), (23, 25, false), (24, 25, false), (25, 25, true), (26, 25, false), (27, 25, false), (28, 25, false)]
def exmT : List (Nat × Nat × Bool) := [(0, 0, true), (0, 1, false), (0, 2, false), (0, 3, false), (0, 4, false), (0, 5, false), (0, 6, false), (0, 7, false), (0, 8, false), (1, 0, true), (1, 1, true), (1, 2, false), (1, 3, false), (1, 4, false), (1, 5, false), (1, 6, false), (1, 7, false), (1, 8, false), (2, 0, true), (2, 1, false), (2, 2, true), (2, 3, false), (2, 4, false), (2, 5, false), (2, 6, false), (2, 7, false), (2, 8, false), (3, 0, true), (3, 1, false), (3, 2, false), (3, 3, true), (3, 4, false), (3, 5, false), (3, 6, false), (3, 7, false), (3, 8, false), (4, 0, true), (4, 1, false), (4, 2, false), (4, 3, false), (4, 4, true), (4, 5, false), (4, 6, false), (4, 7, false), (4, 8, false), (5, 0, true), (5, 1, false), (5, 2, false), (5, 3, false), (5, 4, false), (5, 5, true), (5, 6, false), (5, 7, false), (5, 8, false), (6, 0, true), (6, 1, false), (6, 2, false), (6, 3, false), (6, 4, false), (6, 5, false), (6, 6, true), (6, 7, false), (6, 8, false), (7, 0, true), (7, 1, false), (7, 2, false), (7, 3, false), (7, 4, false), (7, 5, false), (7, 6, false), (7, 7, true), (7, 8, false), (8, 0, true), (8, 1, false), (8, 2, false), (8, 3, false), (8, 4, false), (8, 5, false), (8, 6, false), (8, 7, false), (8, 8, true)]
def kioT : List Nat := [9, 10, 11, 12, 13, 14, 15, 16, 17, 18]
def kdT : List (Nat × List (Str × Str)) := [(0, [(⟨#[114, 101, 97, 100]⟩, ⟨#[114, 110]⟩), (⟨#[99, 117, 116]⟩, ⟨#[114, 114, 105, 105]⟩), (⟨#[116, 105, 103, 104, 116]⟩, ⟨#[114, 114]⟩), (⟨#[106, 111, 105, 110]⟩, ⟨#[114, 114, 114]⟩), (⟨#[109, 111, 118, 101]⟩, ⟨#[114, 114]⟩), (⟨#[100, 114, 111, 112]⟩, ⟨#[114]⟩), (⟨#[107, 101, 101, 112]⟩, ⟨#[114]⟩), (⟨#[112, 97, 99, 107]⟩, ⟨#[114]⟩), (⟨#[99, 108, 101, 97, 114]⟩, ⟨#[]⟩), (⟨#[116, 101, 108, 108]⟩, ⟨#[114]⟩), (⟨#[97, 115, 107]⟩, ⟨#[112]⟩), (⟨#[118, 111, 105, 100]⟩, ⟨#[114, 112]⟩), (⟨#[106, 117, 109, 112]⟩, ⟨#[112]⟩)]), (1, [(⟨#[107, 101, 101, 112]⟩, ⟨#[112, 97, 99, 107]⟩), (⟨#[109, 111, 118, 101]⟩, ⟨#[116, 105, 103, 104, 116]⟩)])]

/-! ### the text of each def, where it stands -/
abbrev d__wall : DefP := { at_ := fun K => He.ga K "_wall", name := "_wall", qual := "_wall", params := defArgs s__wall, body := defBody s__wall, scope := defScope s__wall, dfl := [], kwd := [] }
abbrev d_BadProgram_init : DefP := { at_ := fun K => He.ma K (He.ga K "BadProgram") "__init__", name := "__init__", qual := "BadProgram.__init__", params := defArgs s_BadProgram_init, body := defBody s_BadProgram_init, scope := defScope s_BadProgram_init, dfl := [], kwd := [] }
abbrev d_BadPath_init : DefP := { at_ := fun K => He.ma K (He.ga K "BadPath") "__init__", name := "__init__", qual := "BadPath.__init__", params := defArgs s_BadPath_init, body := defBody s_BadPath_init, scope := defScope s_BadPath_init, dfl := [], kwd := [] }
abbrev d_is_integer : DefP := { at_ := fun K => He.ga K "is_integer", name := "is_integer", qual := "is_integer", params := defArgs s_is_integer, body := defBody s_is_integer, scope := defScope s_is_integer, dfl := [], kwd := [] }
abbrev d_fits : DefP := { at_ := fun K => He.ga K "fits", name := "fits", qual := "fits", params := defArgs s_fits, body := defBody s_fits, scope := defScope s_fits, dfl := [], kwd := [] }
abbrev d_is_step : DefP := { at_ := fun K => He.ga K "is_step", name := "is_step", qual := "is_step", params := defArgs s_is_step, body := defBody s_is_step, scope := defScope s_is_step, dfl := [], kwd := [] }
abbrev d_Program_init : DefP := { at_ := fun K => He.ma K (He.ga K "Program") "__init__", name := "__init__", qual := "Program.__init__", params := defArgs s_Program_init, body := defBody s_Program_init, scope := defScope s_Program_init, dfl := [], kwd := [] }
abbrev d_Program_of : DefP := { at_ := fun K => cmAt "Program" "of" K, name := "of", qual := "Program.of", params := defArgs s_Program_of, body := defBody s_Program_of, scope := defScope s_Program_of, dfl := [], kwd := [("width", .int 4), ("many", .int 2)] }
abbrev d_Program_width : DefP := { at_ := fun K => propAt "Program" "width" K, name := "width", qual := "Program.width", params := defArgs s_Program_width, body := defBody s_Program_width, scope := defScope s_Program_width, dfl := [], kwd := [] }
abbrev d_Program_many : DefP := { at_ := fun K => propAt "Program" "many" K, name := "many", qual := "Program.many", params := defArgs s_Program_many, body := defBody s_Program_many, scope := defScope s_Program_many, dfl := [], kwd := [] }
abbrev d_Program_steps : DefP := { at_ := fun K => propAt "Program" "steps" K, name := "steps", qual := "Program.steps", params := defArgs s_Program_steps, body := defBody s_Program_steps, scope := defScope s_Program_steps, dfl := [], kwd := [] }
abbrev d_Program_eq : DefP := { at_ := fun K => He.ma K (He.ga K "Program") "__eq__", name := "__eq__", qual := "Program.__eq__", params := defArgs s_Program_eq, body := defBody s_Program_eq, scope := defScope s_Program_eq, dfl := [], kwd := [] }
abbrev d_Program_len : DefP := { at_ := fun K => He.ma K (He.ga K "Program") "__len__", name := "__len__", qual := "Program.__len__", params := defArgs s_Program_len, body := defBody s_Program_len, scope := defScope s_Program_len, dfl := [], kwd := [] }
abbrev d_Program_keeps : DefP := { at_ := fun K => He.ma K (He.ga K "Program") "keeps", name := "keeps", qual := "Program.keeps", params := defArgs s_Program_keeps, body := defBody s_Program_keeps, scope := defScope s_Program_keeps, dfl := [], kwd := [] }
abbrev d_check_program : DefP := { at_ := fun K => He.ga K "check_program", name := "check_program", qual := "check_program", params := defArgs s_check_program, body := defBody s_check_program, scope := defScope s_check_program, dfl := [], kwd := [] }
abbrev d_size_of : DefP := { at_ := fun K => He.ga K "size_of", name := "size_of", qual := "size_of", params := defArgs s_size_of, body := defBody s_size_of, scope := defScope s_size_of, dfl := [], kwd := [] }
abbrev d_is_whole : DefP := { at_ := fun K => He.ga K "is_whole", name := "is_whole", qual := "is_whole", params := defArgs s_is_whole, body := defBody s_is_whole, scope := defScope s_is_whole, dfl := [], kwd := [] }
abbrev d_fresh : DefP := { at_ := fun K => He.ga K "fresh", name := "fresh", qual := "fresh", params := defArgs s_fresh, body := defBody s_fresh, scope := defScope s_fresh, dfl := [], kwd := [] }
abbrev d_part : DefP := { at_ := fun K => He.ga K "part", name := "part", qual := "part", params := defArgs s_part, body := defBody s_part, scope := defScope s_part, dfl := [], kwd := [] }
abbrev d_joined : DefP := { at_ := fun K => He.ga K "joined", name := "joined", qual := "joined", params := defArgs s_joined, body := defBody s_joined, scope := defScope s_joined, dfl := [], kwd := [] }
abbrev d_shelved : DefP := { at_ := fun K => He.ga K "shelved", name := "shelved", qual := "shelved", params := defArgs s_shelved, body := defBody s_shelved, scope := defScope s_shelved, dfl := [], kwd := [] }
abbrev d_made : DefP := { at_ := fun K => He.ga K "made", name := "made", qual := "made", params := defArgs s_made, body := defBody s_made, scope := defScope s_made, dfl := [], kwd := [] }
abbrev d_act : DefP := { at_ := fun K => He.ga K "act", name := "act", qual := "act", params := defArgs s_act, body := defBody s_act, scope := defScope s_act, dfl := [], kwd := [] }
abbrev d_settled : DefP := { at_ := fun K => He.ga K "settled", name := "settled", qual := "settled", params := defArgs s_settled, body := defBody s_settled, scope := defScope s_settled, dfl := [], kwd := [] }
abbrev d_turns : DefP := { at_ := fun K => He.ga K "turns", name := "turns", qual := "turns", params := defArgs s_turns, body := defBody s_turns, scope := defScope s_turns, dfl := [], kwd := [] }
abbrev d_start_of : DefP := { at_ := fun K => He.ga K "start_of", name := "start_of", qual := "start_of", params := defArgs s_start_of, body := defBody s_start_of, scope := defScope s_start_of, dfl := [], kwd := [] }
abbrev d_after : DefP := { at_ := fun K => He.ga K "after", name := "after", qual := "after", params := defArgs s_after, body := defBody s_after, scope := defScope s_after, dfl := [], kwd := [] }
abbrev d_waste_of : DefP := { at_ := fun K => He.ga K "waste_of", name := "waste_of", qual := "waste_of", params := defArgs s_waste_of, body := defBody s_waste_of, scope := defScope s_waste_of, dfl := [], kwd := [] }
abbrev d_is_clear : DefP := { at_ := fun K => He.ga K "is_clear", name := "is_clear", qual := "is_clear", params := defArgs s_is_clear, body := defBody s_is_clear, scope := defScope s_is_clear, dfl := [], kwd := [] }
abbrev d_later_of : DefP := { at_ := fun K => He.ga K "later_of", name := "later_of", qual := "later_of", params := defArgs s_later_of, body := defBody s_later_of, scope := defScope s_later_of, dfl := [], kwd := [] }
abbrev d_followed : DefP := { at_ := fun K => He.ga K "followed", name := "followed", qual := "followed", params := defArgs s_followed, body := defBody s_followed, scope := defScope s_followed, dfl := [], kwd := [] }
abbrev d_stands : DefP := { at_ := fun K => He.ga K "stands", name := "stands", qual := "stands", params := defArgs s_stands, body := defBody s_stands, scope := defScope s_stands, dfl := [], kwd := [] }
abbrev d_Way_init : DefP := { at_ := fun K => He.ma K (He.ga K "Way") "__init__", name := "__init__", qual := "Way.__init__", params := defArgs s_Way_init, body := defBody s_Way_init, scope := defScope s_Way_init, dfl := [], kwd := [] }
abbrev d_Way_end : DefP := { at_ := fun K => He.ma K (He.ga K "Way") "end", name := "end", qual := "Way.end", params := defArgs s_Way_end, body := defBody s_Way_end, scope := defScope s_Way_end, dfl := [], kwd := [] }
abbrev d_walked : DefP := { at_ := fun K => He.ga K "walked", name := "walked", qual := "walked", params := defArgs s_walked, body := defBody s_walked, scope := defScope s_walked, dfl := [], kwd := [] }
abbrev d_are_heights : DefP := { at_ := fun K => He.ga K "are_heights", name := "are_heights", qual := "are_heights", params := defArgs s_are_heights, body := defBody s_are_heights, scope := defScope s_are_heights, dfl := [], kwd := [] }
abbrev d_AtMost_init : DefP := { at_ := fun K => He.ma K (He.ga K "AtMost") "__init__", name := "__init__", qual := "AtMost.__init__", params := defArgs s_AtMost_init, body := defBody s_AtMost_init, scope := defScope s_AtMost_init, dfl := [], kwd := [] }
abbrev d_AtMost_eq : DefP := { at_ := fun K => He.ma K (He.ga K "AtMost") "__eq__", name := "__eq__", qual := "AtMost.__eq__", params := defArgs s_AtMost_eq, body := defBody s_AtMost_eq, scope := defScope s_AtMost_eq, dfl := [], kwd := [] }
abbrev d_AtMost_shows : DefP := { at_ := fun K => He.ma K (He.ga K "AtMost") "shows", name := "shows", qual := "AtMost.shows", params := defArgs s_AtMost_shows, body := defBody s_AtMost_shows, scope := defScope s_AtMost_shows, dfl := [], kwd := [] }
abbrev d_NoBound_init : DefP := { at_ := fun K => He.ma K (He.ga K "NoBound") "__init__", name := "__init__", qual := "NoBound.__init__", params := defArgs s_NoBound_init, body := defBody s_NoBound_init, scope := defScope s_NoBound_init, dfl := [], kwd := [] }
abbrev d_NoBound_eq : DefP := { at_ := fun K => He.ma K (He.ga K "NoBound") "__eq__", name := "__eq__", qual := "NoBound.__eq__", params := defArgs s_NoBound_eq, body := defBody s_NoBound_eq, scope := defScope s_NoBound_eq, dfl := [], kwd := [] }
abbrev d_NoBound_shows : DefP := { at_ := fun K => He.ma K (He.ga K "NoBound") "shows", name := "shows", qual := "NoBound.shows", params := defArgs s_NoBound_shows, body := defBody s_NoBound_shows, scope := defScope s_NoBound_shows, dfl := [], kwd := [] }
abbrev d_Over_init : DefP := { at_ := fun K => He.ma K (He.ga K "Over") "__init__", name := "__init__", qual := "Over.__init__", params := defArgs s_Over_init, body := defBody s_Over_init, scope := defScope s_Over_init, dfl := [], kwd := [] }
abbrev d_Over_eq : DefP := { at_ := fun K => He.ma K (He.ga K "Over") "__eq__", name := "__eq__", qual := "Over.__eq__", params := defArgs s_Over_eq, body := defBody s_Over_eq, scope := defScope s_Over_eq, dfl := [], kwd := [] }
abbrev d_Over_shows : DefP := { at_ := fun K => He.ma K (He.ga K "Over") "shows", name := "shows", qual := "Over.shows", params := defArgs s_Over_shows, body := defBody s_Over_shows, scope := defScope s_Over_shows, dfl := [], kwd := [] }
abbrev d_check_limit : DefP := { at_ := fun K => He.ga K "check_limit", name := "check_limit", qual := "check_limit", params := defArgs s_check_limit, body := defBody s_check_limit, scope := defScope s_check_limit, dfl := [], kwd := [] }
abbrev d_explored : DefP := { at_ := fun K => He.ga K "explored", name := "explored", qual := "explored", params := defArgs s_explored, body := defBody s_explored, scope := defScope s_explored, dfl := [], kwd := [] }
abbrev d_road : DefP := { at_ := fun K => He.ga K "road", name := "road", qual := "road", params := defArgs s_road, body := defBody s_road, scope := defScope s_road, dfl := [], kwd := [] }
abbrev d_path_of : DefP := { at_ := fun K => He.ga K "path_of", name := "path_of", qual := "path_of", params := defArgs s_path_of, body := defBody s_path_of, scope := defScope s_path_of, dfl := [], kwd := [] }
abbrev d_road_round : DefP := { at_ := fun K => He.ga K "road_round", name := "road_round", qual := "road_round", params := defArgs s_road_round, body := defBody s_road_round, scope := defScope s_road_round, dfl := [], kwd := [] }
abbrev d_ring_of : DefP := { at_ := fun K => He.ga K "ring_of", name := "ring_of", qual := "ring_of", params := defArgs s_ring_of, body := defBody s_ring_of, scope := defScope s_ring_of, dfl := [], kwd := [] }
abbrev d_raised : DefP := { at_ := fun K => He.ga K "raised", name := "raised", qual := "raised", params := defArgs s_raised, body := defBody s_raised, scope := defScope s_raised, dfl := [], kwd := [] }
abbrev d_top_road : DefP := { at_ := fun K => He.ga K "top_road", name := "top_road", qual := "top_road", params := defArgs s_top_road, body := defBody s_top_road, scope := defScope s_top_road, dfl := [], kwd := [] }
abbrev d_bound_of : DefP := { at_ := fun K => He.ga K "bound_of", name := "bound_of", qual := "bound_of", params := defArgs s_bound_of, body := defBody s_bound_of, scope := defScope s_bound_of, dfl := [], kwd := [] }
abbrev d_check_any : DefP := { at_ := fun K => He.ga K "check_any", name := "check_any", qual := "check_any", params := defArgs s_check_any, body := defBody s_check_any, scope := defScope s_check_any, dfl := [], kwd := [] }
abbrev d_is_spot : DefP := { at_ := fun K => He.ga K "is_spot", name := "is_spot", qual := "is_spot", params := defArgs s_is_spot, body := defBody s_is_spot, scope := defScope s_is_spot, dfl := [], kwd := [] }
abbrev d_check_offers : DefP := { at_ := fun K => He.ga K "check_offers", name := "check_offers", qual := "check_offers", params := defArgs s_check_offers, body := defBody s_check_offers, scope := defScope s_check_offers, dfl := [], kwd := [] }
abbrev d_check_all : DefP := { at_ := fun K => He.ga K "check_all", name := "check_all", qual := "check_all", params := defArgs s_check_all, body := defBody s_check_all, scope := defScope s_check_all, dfl := [], kwd := [] }
abbrev d_price_of : DefP := { at_ := fun K => He.ga K "price_of", name := "price_of", qual := "price_of", params := defArgs s_price_of, body := defBody s_price_of, scope := defScope s_price_of, dfl := [], kwd := [] }
abbrev d_lots_of : DefP := { at_ := fun K => He.ga K "lots_of", name := "lots_of", qual := "lots_of", params := defArgs s_lots_of, body := defBody s_lots_of, scope := defScope s_lots_of, dfl := [], kwd := [] }
abbrev d_with_lot : DefP := { at_ := fun K => He.ga K "with_lot", name := "with_lot", qual := "with_lot", params := defArgs s_with_lot, body := defBody s_with_lot, scope := defScope s_with_lot, dfl := [], kwd := [] }
abbrev d_answer_to : DefP := { at_ := fun K => He.ga K "answer_to", name := "answer_to", qual := "answer_to", params := defArgs s_answer_to, body := defBody s_answer_to, scope := defScope s_answer_to, dfl := [], kwd := [] }
abbrev d_is_against_lot : DefP := { at_ := fun K => He.ga K "is_against_lot", name := "is_against_lot", qual := "is_against_lot", params := defArgs s_is_against_lot, body := defBody s_is_against_lot, scope := defScope s_is_against_lot, dfl := [], kwd := [] }
abbrev d_are_against_lots : DefP := { at_ := fun K => He.ga K "are_against_lots", name := "are_against_lots", qual := "are_against_lots", params := defArgs s_are_against_lots, body := defBody s_are_against_lots, scope := defScope s_are_against_lots, dfl := [], kwd := [] }
abbrev d_Tightened_init : DefP := { at_ := fun K => He.ma K (He.ga K "Tightened") "__init__", name := "__init__", qual := "Tightened.__init__", params := defArgs s_Tightened_init, body := defBody s_Tightened_init, scope := defScope s_Tightened_init, dfl := [], kwd := [] }
abbrev d_Tightened_eq : DefP := { at_ := fun K => He.ma K (He.ga K "Tightened") "__eq__", name := "__eq__", qual := "Tightened.__eq__", params := defArgs s_Tightened_eq, body := defBody s_Tightened_eq, scope := defScope s_Tightened_eq, dfl := [], kwd := [] }
abbrev d_Tightened_shows : DefP := { at_ := fun K => He.ma K (He.ga K "Tightened") "shows", name := "shows", qual := "Tightened.shows", params := defArgs s_Tightened_shows, body := defBody s_Tightened_shows, scope := defScope s_Tightened_shows, dfl := [], kwd := [("limit", .non)] }
abbrev d_NotTightened_init : DefP := { at_ := fun K => He.ma K (He.ga K "NotTightened") "__init__", name := "__init__", qual := "NotTightened.__init__", params := defArgs s_NotTightened_init, body := defBody s_NotTightened_init, scope := defScope s_NotTightened_init, dfl := [], kwd := [] }
abbrev d_NotTightened_eq : DefP := { at_ := fun K => He.ma K (He.ga K "NotTightened") "__eq__", name := "__eq__", qual := "NotTightened.__eq__", params := defArgs s_NotTightened_eq, body := defBody s_NotTightened_eq, scope := defScope s_NotTightened_eq, dfl := [], kwd := [] }
abbrev d_NotTightened_shows : DefP := { at_ := fun K => He.ma K (He.ga K "NotTightened") "shows", name := "shows", qual := "NotTightened.shows", params := defArgs s_NotTightened_shows, body := defBody s_NotTightened_shows, scope := defScope s_NotTightened_shows, dfl := [], kwd := [("limit", .non)] }
abbrev d_lots : DefP := { at_ := fun K => He.ga K "lots", name := "lots", qual := "lots", params := defArgs s_lots, body := defBody s_lots, scope := defScope s_lots, dfl := [], kwd := [] }
abbrev d_tightened : DefP := { at_ := fun K => He.ga K "tightened", name := "tightened", qual := "tightened", params := defArgs s_tightened, body := defBody s_tightened, scope := defScope s_tightened, dfl := [], kwd := [] }
abbrev d_tighten : DefP := { at_ := fun K => He.ga K "tighten", name := "tighten", qual := "tighten", params := defArgs s_tighten, body := defBody s_tighten, scope := defScope s_tighten, dfl := [], kwd := [("limit", .non)] }
abbrev d_least_price : DefP := { at_ := fun K => He.ga K "least_price", name := "least_price", qual := "least_price", params := defArgs s_least_price, body := defBody s_least_price, scope := defScope s_least_price, dfl := [], kwd := [("limit", .non)] }
abbrev d_Meets_init : DefP := { at_ := fun K => He.ma K (He.ga K "Meets") "__init__", name := "__init__", qual := "Meets.__init__", params := defArgs s_Meets_init, body := defBody s_Meets_init, scope := defScope s_Meets_init, dfl := [], kwd := [] }
abbrev d_Meets_eq : DefP := { at_ := fun K => He.ma K (He.ga K "Meets") "__eq__", name := "__eq__", qual := "Meets.__eq__", params := defArgs s_Meets_eq, body := defBody s_Meets_eq, scope := defScope s_Meets_eq, dfl := [], kwd := [] }
abbrev d_Meets_shows : DefP := { at_ := fun K => He.ma K (He.ga K "Meets") "shows", name := "shows", qual := "Meets.shows", params := defArgs s_Meets_shows, body := defBody s_Meets_shows, scope := defScope s_Meets_shows, dfl := [], kwd := [] }
abbrev d_Apart_init : DefP := { at_ := fun K => He.ma K (He.ga K "Apart") "__init__", name := "__init__", qual := "Apart.__init__", params := defArgs s_Apart_init, body := defBody s_Apart_init, scope := defScope s_Apart_init, dfl := [], kwd := [] }
abbrev d_Apart_eq : DefP := { at_ := fun K => He.ma K (He.ga K "Apart") "__eq__", name := "__eq__", qual := "Apart.__eq__", params := defArgs s_Apart_eq, body := defBody s_Apart_eq, scope := defScope s_Apart_eq, dfl := [], kwd := [] }
abbrev d_Apart_shows : DefP := { at_ := fun K => He.ma K (He.ga K "Apart") "shows", name := "shows", qual := "Apart.shows", params := defArgs s_Apart_shows, body := defBody s_Apart_shows, scope := defScope s_Apart_shows, dfl := [], kwd := [] }
abbrev d_check_place : DefP := { at_ := fun K => He.ga K "check_place", name := "check_place", qual := "check_place", params := defArgs s_check_place, body := defBody s_check_place, scope := defScope s_check_place, dfl := [], kwd := [] }
abbrev d_check_thing : DefP := { at_ := fun K => He.ga K "check_thing", name := "check_thing", qual := "check_thing", params := defArgs s_check_thing, body := defBody s_check_thing, scope := defScope s_check_thing, dfl := [], kwd := [] }
abbrev d_is_register : DefP := { at_ := fun K => He.ga K "is_register", name := "is_register", qual := "is_register", params := defArgs s_is_register, body := defBody s_is_register, scope := defScope s_is_register, dfl := [], kwd := [] }
abbrev d_check_meeting : DefP := { at_ := fun K => He.ga K "check_meeting", name := "check_meeting", qual := "check_meeting", params := defArgs s_check_meeting, body := defBody s_check_meeting, scope := defScope s_check_meeting, dfl := [], kwd := [] }
abbrev d_does_meet : DefP := { at_ := fun K => He.ga K "does_meet", name := "does_meet", qual := "does_meet", params := defArgs s_does_meet, body := defBody s_does_meet, scope := defScope s_does_meet, dfl := [], kwd := [] }
abbrev d_met : DefP := { at_ := fun K => He.ga K "met", name := "met", qual := "met", params := defArgs s_met, body := defBody s_met, scope := defScope s_met, dfl := [], kwd := [] }
abbrev d_meet : DefP := { at_ := fun K => He.ga K "meet", name := "meet", qual := "meet", params := defArgs s_meet, body := defBody s_meet, scope := defScope s_meet, dfl := [], kwd := [] }
abbrev d_can_meet : DefP := { at_ := fun K => He.ga K "can_meet", name := "can_meet", qual := "can_meet", params := defArgs s_can_meet, body := defBody s_can_meet, scope := defScope s_can_meet, dfl := [], kwd := [] }
abbrev d_pairs_that_meet : DefP := { at_ := fun K => He.ga K "pairs_that_meet", name := "pairs_that_meet", qual := "pairs_that_meet", params := defArgs s_pairs_that_meet, body := defBody s_pairs_that_meet, scope := defScope s_pairs_that_meet, dfl := [], kwd := [] }
abbrev d__law_cuts : DefP := { at_ := fun K => He.ga K "_law_cuts", name := "_law_cuts", qual := "_law_cuts", params := defArgs s__law_cuts, body := defBody s__law_cuts, scope := defScope s__law_cuts, dfl := [], kwd := [] }
abbrev d__law_meeting_right : DefP := { at_ := fun K => He.ga K "_law_meeting_right", name := "_law_meeting_right", qual := "_law_meeting_right", params := defArgs s__law_meeting_right, body := defBody s__law_meeting_right, scope := defScope s__law_meeting_right, dfl := [], kwd := [] }
abbrev d__law_tight_right : DefP := { at_ := fun K => He.ga K "_law_tight_right", name := "_law_tight_right", qual := "_law_tight_right", params := defArgs s__law_tight_right, body := defBody s__law_tight_right, scope := defScope s__law_tight_right, dfl := [], kwd := [] }
abbrev d_law : DefP := { at_ := fun K => He.ga K "law", name := "law", qual := "law", params := defArgs s_law, body := defBody s_law, scope := defScope s_law, dfl := [], kwd := [] }
def dps : List DefP := [d__wall, d_BadProgram_init, d_BadPath_init, d_is_integer, d_fits, d_is_step, d_Program_init, d_Program_of, d_Program_width, d_Program_many, d_Program_steps, d_Program_eq, d_Program_len, d_Program_keeps, d_check_program, d_size_of, d_is_whole, d_fresh, d_part, d_joined, d_shelved, d_made, d_act, d_settled, d_turns, d_start_of, d_after, d_waste_of, d_is_clear, d_later_of, d_followed, d_stands, d_Way_init, d_Way_end, d_walked, d_are_heights, d_AtMost_init, d_AtMost_eq, d_AtMost_shows, d_NoBound_init, d_NoBound_eq, d_NoBound_shows, d_Over_init, d_Over_eq, d_Over_shows, d_check_limit, d_explored, d_road, d_path_of, d_road_round, d_ring_of, d_raised, d_top_road, d_bound_of, d_check_any, d_is_spot, d_check_offers, d_check_all, d_price_of, d_lots_of, d_with_lot, d_answer_to, d_is_against_lot, d_are_against_lots, d_Tightened_init, d_Tightened_eq, d_Tightened_shows, d_NotTightened_init, d_NotTightened_eq, d_NotTightened_shows, d_lots, d_tightened, d_tighten, d_least_price, d_Meets_init, d_Meets_eq, d_Meets_shows, d_Apart_init, d_Apart_eq, d_Apart_shows, d_check_place, d_check_thing, d_is_register, d_check_meeting, d_does_meet, d_met, d_meet, d_can_meet, d_pairs_that_meet, d__law_cuts, d__law_meeting_right, d__law_tight_right, d_law]
def faOf (K : PySem.W.Frag) (f : Nat) : Addr := (cond (Nat.blt f 46) (cond (Nat.blt f 23) (cond (Nat.blt f 11) (cond (Nat.blt f 5) (cond (Nat.blt f 2) (cond (Nat.blt f 1) (d__wall.at_ K) (d_BadProgram_init.at_ K)) (cond (Nat.blt f 3) (d_BadPath_init.at_ K) (cond (Nat.blt f 4) (d_is_integer.at_ K) (d_fits.at_ K)))) (cond (Nat.blt f 8) (cond (Nat.blt f 6) (d_is_step.at_ K) (cond (Nat.blt f 7) (d_Program_init.at_ K) (d_Program_of.at_ K))) (cond (Nat.blt f 9) (d_Program_width.at_ K) (cond (Nat.blt f 10) (d_Program_many.at_ K) (d_Program_steps.at_ K))))) (cond (Nat.blt f 17) (cond (Nat.blt f 14) (cond (Nat.blt f 12) (d_Program_eq.at_ K) (cond (Nat.blt f 13) (d_Program_len.at_ K) (d_Program_keeps.at_ K))) (cond (Nat.blt f 15) (d_check_program.at_ K) (cond (Nat.blt f 16) (d_size_of.at_ K) (d_is_whole.at_ K)))) (cond (Nat.blt f 20) (cond (Nat.blt f 18) (d_fresh.at_ K) (cond (Nat.blt f 19) (d_part.at_ K) (d_joined.at_ K))) (cond (Nat.blt f 21) (d_shelved.at_ K) (cond (Nat.blt f 22) (d_made.at_ K) (d_act.at_ K)))))) (cond (Nat.blt f 34) (cond (Nat.blt f 28) (cond (Nat.blt f 25) (cond (Nat.blt f 24) (d_settled.at_ K) (d_turns.at_ K)) (cond (Nat.blt f 26) (d_start_of.at_ K) (cond (Nat.blt f 27) (d_after.at_ K) (d_waste_of.at_ K)))) (cond (Nat.blt f 31) (cond (Nat.blt f 29) (d_is_clear.at_ K) (cond (Nat.blt f 30) (d_later_of.at_ K) (d_followed.at_ K))) (cond (Nat.blt f 32) (d_stands.at_ K) (cond (Nat.blt f 33) (d_Way_init.at_ K) (d_Way_end.at_ K))))) (cond (Nat.blt f 40) (cond (Nat.blt f 37) (cond (Nat.blt f 35) (d_walked.at_ K) (cond (Nat.blt f 36) (d_are_heights.at_ K) (d_AtMost_init.at_ K))) (cond (Nat.blt f 38) (d_AtMost_eq.at_ K) (cond (Nat.blt f 39) (d_AtMost_shows.at_ K) (d_NoBound_init.at_ K)))) (cond (Nat.blt f 43) (cond (Nat.blt f 41) (d_NoBound_eq.at_ K) (cond (Nat.blt f 42) (d_NoBound_shows.at_ K) (d_Over_init.at_ K))) (cond (Nat.blt f 44) (d_Over_eq.at_ K) (cond (Nat.blt f 45) (d_Over_shows.at_ K) (d_check_limit.at_ K))))))) (cond (Nat.blt f 69) (cond (Nat.blt f 57) (cond (Nat.blt f 51) (cond (Nat.blt f 48) (cond (Nat.blt f 47) (d_explored.at_ K) (d_road.at_ K)) (cond (Nat.blt f 49) (d_path_of.at_ K) (cond (Nat.blt f 50) (d_road_round.at_ K) (d_ring_of.at_ K)))) (cond (Nat.blt f 54) (cond (Nat.blt f 52) (d_raised.at_ K) (cond (Nat.blt f 53) (d_top_road.at_ K) (d_bound_of.at_ K))) (cond (Nat.blt f 55) (d_check_any.at_ K) (cond (Nat.blt f 56) (d_is_spot.at_ K) (d_check_offers.at_ K))))) (cond (Nat.blt f 63) (cond (Nat.blt f 60) (cond (Nat.blt f 58) (d_check_all.at_ K) (cond (Nat.blt f 59) (d_price_of.at_ K) (d_lots_of.at_ K))) (cond (Nat.blt f 61) (d_with_lot.at_ K) (cond (Nat.blt f 62) (d_answer_to.at_ K) (d_is_against_lot.at_ K)))) (cond (Nat.blt f 66) (cond (Nat.blt f 64) (d_are_against_lots.at_ K) (cond (Nat.blt f 65) (d_Tightened_init.at_ K) (d_Tightened_eq.at_ K))) (cond (Nat.blt f 67) (d_Tightened_shows.at_ K) (cond (Nat.blt f 68) (d_NotTightened_init.at_ K) (d_NotTightened_eq.at_ K)))))) (cond (Nat.blt f 81) (cond (Nat.blt f 75) (cond (Nat.blt f 72) (cond (Nat.blt f 70) (d_NotTightened_shows.at_ K) (cond (Nat.blt f 71) (d_lots.at_ K) (d_tightened.at_ K))) (cond (Nat.blt f 73) (d_tighten.at_ K) (cond (Nat.blt f 74) (d_least_price.at_ K) (d_Meets_init.at_ K)))) (cond (Nat.blt f 78) (cond (Nat.blt f 76) (d_Meets_eq.at_ K) (cond (Nat.blt f 77) (d_Meets_shows.at_ K) (d_Apart_init.at_ K))) (cond (Nat.blt f 79) (d_Apart_eq.at_ K) (cond (Nat.blt f 80) (d_Apart_shows.at_ K) (d_check_place.at_ K))))) (cond (Nat.blt f 87) (cond (Nat.blt f 84) (cond (Nat.blt f 82) (d_check_thing.at_ K) (cond (Nat.blt f 83) (d_is_register.at_ K) (d_check_meeting.at_ K))) (cond (Nat.blt f 85) (d_does_meet.at_ K) (cond (Nat.blt f 86) (d_met.at_ K) (d_meet.at_ K)))) (cond (Nat.blt f 90) (cond (Nat.blt f 88) (d_can_meet.at_ K) (cond (Nat.blt f 89) (d_pairs_that_meet.at_ K) (d__law_cuts.at_ K))) (cond (Nat.blt f 91) (d__law_meeting_right.at_ K) (cond (Nat.blt f 92) (d__law_tight_right.at_ K) (d_law.at_ K))))))))
def caL : List Str := ["HoldError", "BadProgram", "BadPath", "BadLimit", "TooLarge", "BadRegister", "BadPlace", "BadWord", "BadOffers", "Program", "Answer", "Way", "AtMost", "NoBound", "Over", "Tightened", "NotTightened", "Meets", "Apart"]
def caOf (K : PySem.W.Frag) (c : Nat) : Addr := match caL[c]? with
  | some x => He.ga K x
  | none => 0
def kdOf (K : PySem.W.Frag) (k : Nat) : Addr := (cond (Nat.blt k 1) (He.ga K "SHAPES") (He.ga K "TIGHT"))
def nmL : List Str := ["part", "index", "wide", "count", "rows", "many", "steps", "width", "path", "number", "heights", "ring", "shows", "lot", "bound", "others", "stands", "__eq__", "__len__", "keeps", "end"]
theorem nm_inj : ∀ i j, nmOf nmL i = nmOf nmL j → i = j := nmOf_inj (by decide +kernel) (by decide +kernel)
def lamD : List He.Defn := [(("lots_of", none) : He.Defn)]
def tbOf (K : PySem.W.Frag) : List (Addr × Str) := [((He.cT K (("lots_of", none) : He.Defn)).2, ("lots_of" ++ ".<locals>." : Str) ++ "<lambda>")]
def mkT (K : PySem.W.Frag) (P : Program) (w : World) : Tab where
  K := K
  nm := nmOf nmL
  inj := nm_inj
  ca := caOf K
  xc := fun c => .ref (caOf K c)
  fa := faOf K
  kd := kdOf K
  P := P
  w := w
  tb := tbOf K
def w0 : World := ⟨fun _ _ => 0, { strHash := fun _ => 0, shareClass := fun _ => 0, mergeTok := id, idOf := fun _ => 0, idOfShared := fun _ _ => 0, followText := fun _ => false, idOfImm := fun _ => 0 }⟩
def tupC (K : PySem.W.Frag) : Bool := tupSB K "NAMES" l_NAMES && tupSB K "THINGS" l_THINGS
def kdC (K : PySem.W.Frag) : Bool := kdT.all fun q => kdB K (kdOf K q.1) q.2
def cfL : List (Nat × Str × Nat) := [(11, "__init__", 32)]
def exK (K : PySem.W.Frag) : Bool := (chkG (mkT K PySem.Challenge.pw_sliverhold_k45_known_all w0) attT iniT isiT kioT exmT && kdC K) && (tupC K && cfL.all fun q => cfnB K (caOf K q.1) q.2.1 (faOf K q.2.2))
def as0 : List Addr := [3, 6, 4, 21, 31, 51, 70, 82, 94, 106, 118, 130, 142, 151, 152, 153, 160, 165, 236, 247, 254, 261, 268, 275, 282, 287, 294, 301, 306, 313, 320, 325, 330, 337, 342, 349, 354, 364, 392, 403]
def as1 : List Addr := [408, 437, 468, 501, 510, 517, 524, 529, 536, 543, 550, 557, 564, 571, 572, 579, 586, 593, 598, 603, 608, 615, 622, 627, 657, 693, 704, 709, 715, 723, 724, 755, 788, 799, 806, 813, 820, 825, 830, 837]
def as2 : List Addr := [844, 849, 856, 861, 866, 873, 0, 20, 30, 50, 69, 81, 93, 105, 117, 129, 141, 150, 159, 164, 235, 246, 253, 260, 267, 274, 281, 286, 293, 300, 305, 312, 319, 324, 329, 336, 341, 348, 353, 363]
def as3 : List Addr := [391, 402, 407, 436, 467, 500, 509, 516, 523, 528, 535, 542, 549, 556, 563, 570, 578, 585, 592, 597, 602, 607, 614, 621, 626, 656, 692, 703, 708, 714, 710, 722, 716, 754, 787, 798, 805, 812, 819, 824]
def as4 : List Addr := [829, 836, 843, 848, 855, 860, 865, 872, 15, 17, 18, 19, 29, 32, 48, 49, 67, 68, 80, 92, 104, 116, 128, 140, 145, 147, 148, 149, 154, 156, 157, 158, 161, 163, 177, 187, 196, 204, 212, 219]
def as5 : List Addr := [226, 233, 234, 237, 238, 241, 243, 244, 245, 248, 250, 251, 252, 255, 257, 258, 259, 262, 264, 265, 266, 269, 271, 272, 273, 276, 278, 279, 280, 283, 285, 288, 290, 291, 292, 295, 297, 298, 299, 302]
def as6 : List Addr := [304, 307, 309, 310, 311, 314, 316, 317, 318, 321, 323, 326, 328, 331, 333, 334, 335, 338, 340, 343, 345, 346, 347, 350, 352, 362, 365, 366, 382, 389, 390, 393, 394, 397, 399, 400, 401, 404, 406, 420]
def as7 : List Addr := [427, 434, 435, 453, 460, 465, 466, 484, 491, 498, 499, 504, 506, 507, 508, 511, 513, 514, 515, 518, 520, 521, 522, 525, 527, 530, 532, 533, 534, 537, 539, 540, 541, 544, 546, 547, 548, 551, 553, 554]
def as8 : List Addr := [555, 558, 560, 561, 562, 565, 567, 568, 569, 573, 575, 576, 577, 580, 582, 583, 584, 587, 589, 590, 591, 594, 596, 599, 601, 604, 606, 609, 611, 612, 613, 616, 618, 619, 620, 623, 625, 641, 648, 654]
def as9 : List Addr := [655, 658, 659, 675, 682, 690, 691, 694, 695, 698, 700, 701, 702, 705, 707, 711, 713, 717, 719, 720, 721, 738, 745, 752, 753, 756, 757, 773, 780, 785, 786, 789, 790, 793, 795, 796, 797, 800, 802, 803]
def as10 : List Addr := [804, 807, 809, 810, 811, 814, 816, 817, 818, 821, 823, 826, 828, 831, 833, 834, 835, 838, 840, 841, 842, 845, 847, 850, 852, 853, 854, 857, 859, 862, 864, 867, 869, 870, 871, 47, 66, 176, 185, 186]
def as11 : List Addr := [195, 203, 211, 218, 225, 232, 381, 388, 419, 426, 433, 452, 459, 464, 483, 490, 497, 640, 647, 653, 649, 674, 681, 689, 683, 737, 744, 751, 772, 779, 784, 42, 44, 45, 46, 61, 63, 64, 65, 173]
def as12 : List Addr := [175, 184, 178, 188, 194, 202, 210, 213, 215, 216, 217, 220, 222, 223, 224, 227, 229, 230, 231, 376, 378, 379, 380, 383, 385, 386, 387, 416, 418, 421, 423, 424, 425, 428, 430, 431, 432, 447, 449, 450]
def as13 : List Addr := [451, 454, 456, 457, 458, 461, 463, 478, 480, 481, 482, 485, 487, 488, 489, 492, 494, 495, 496, 635, 637, 638, 639, 642, 644, 645, 646, 650, 652, 669, 671, 672, 673, 676, 678, 679, 680, 684, 686, 687]
def as14 : List Addr := [688, 732, 734, 735, 736, 739, 741, 742, 743, 746, 748, 749, 750, 767, 769, 770, 771, 774, 776, 777, 778, 781, 783, 179, 181, 182, 183, 189, 191, 192, 193, 197, 199, 200, 201, 205, 207, 208, 209, 2]
def asK (_ : Addr → Option Obj) : List Addr := as0 ++ (as1 ++ (as2 ++ (as3 ++ (as4 ++ (as5 ++ (as6 ++ (as7 ++ (as8 ++ (as9 ++ (as10 ++ (as11 ++ (as12 ++ (as13 ++ (as14))))))))))))))
def HD : HeadS where
  as := asK
  fa := [.glo "Apart", .keep "Apart", .glo "AtMost", .keep "AtMost", .glo "BadPath", .keep "BadPath", .int "MAX_OFFERS" 4, .int "MAX_PRICE" 9, .int "MAX_STANDS" 1000, .int "MAX_STEPS" 12, .int "MAX_WIDTH" 6, .glo "Meets", .keep "Meets", .glo "NAMES", .glo "NoBound", .keep "NoBound", .glo "NotTightened", .keep "NotTightened", .glo "Over", .keep "Over", .glo "Program", .keep "Program", .glo "SHAPES", .glo "THINGS", .glo "TIGHT", .glo "Tightened", .keep "Tightened", .glo "Way", .keep "Way", .glo "_law_cuts", .keep "_law_cuts", .glo "_law_meeting_right", .keep "_law_meeting_right", .glo "_law_tight_right", .keep "_law_tight_right", .glo "_wall", .keep "_wall", .glo "act", .keep "act", .glo "after", .keep "after", .free "all", .glo "answer_to", .keep "answer_to", .free "any", .glo "are_against_lots", .keep "are_against_lots", .glo "are_heights", .keep "are_heights", .free "bool", .glo "bound_of", .keep "bound_of", .glo "can_meet", .keep "can_meet", .glo "check_all", .keep "check_all", .glo "check_any", .keep "check_any", .glo "check_limit", .keep "check_limit", .glo "check_meeting", .keep "check_meeting", .glo "check_offers", .keep "check_offers", .glo "check_place", .keep "check_place", .glo "check_program", .keep "check_program", .glo "check_thing", .keep "check_thing", .free "dict", .glo "does_meet", .keep "does_meet", .free "enumerate", .glo "explored", .keep "explored", .glo "fits", .keep "fits", .glo "followed", .keep "followed", .glo "fresh", .keep "fresh", .free "int", .glo "is_against_lot", .keep "is_against_lot", .glo "is_clear", .keep "is_clear", .glo "is_integer", .keep "is_integer", .glo "is_register", .keep "is_register", .glo "is_spot", .keep "is_spot", .glo "is_step", .keep "is_step", .glo "is_whole", .keep "is_whole", .free "isinstance", .glo "joined", .keep "joined", .glo "later_of", .keep "later_of", .glo "least_price", .keep "least_price", .free "len", .free "list", .glo "lots", .keep "lots", .glo "lots_of", .keep "lots_of", .glo "made", .keep "made", .free "max", .glo "meet", .keep "meet", .glo "met", .keep "met", .free "min", .glo "pairs_that_meet", .keep "pairs_that_meet", .glo "part", .keep "part", .glo "path_of", .keep "path_of", .glo "price_of", .keep "price_of", .glo "raised", .keep "raised", .free "range", .glo "ring_of", .keep "ring_of", .glo "road", .keep "road", .glo "road_round", .keep "road_round", .glo "settled", .keep "settled", .glo "shelved", .keep "shelved", .glo "size_of", .keep "size_of", .free "sorted", .glo "stands", .keep "stands", .glo "start_of", .keep "start_of", .free "str", .free "sum", .glo "tighten", .keep "tighten", .glo "tightened", .keep "tightened", .glo "top_road", .keep "top_road", .free "tuple", .glo "turns", .keep "turns", .glo "walked", .keep "walked", .glo "waste_of", .keep "waste_of", .glo "with_lot", .keep "with_lot", .free "zip", .glo "law"]
  ps := dps
  ts := [(fun K => kdOf K 0, [⟨#[114, 101, 97, 100]⟩, ⟨#[99, 117, 116]⟩, ⟨#[116, 105, 103, 104, 116]⟩, ⟨#[106, 111, 105, 110]⟩, ⟨#[109, 111, 118, 101]⟩, ⟨#[100, 114, 111, 112]⟩, ⟨#[107, 101, 101, 112]⟩, ⟨#[112, 97, 99, 107]⟩, ⟨#[99, 108, 101, 97, 114]⟩, ⟨#[116, 101, 108, 108]⟩, ⟨#[97, 115, 107]⟩, ⟨#[118, 111, 105, 100]⟩, ⟨#[106, 117, 109, 112]⟩]), (fun K => kdOf K 1, [⟨#[107, 101, 101, 112]⟩, ⟨#[109, 111, 118, 101]⟩])]
  tf := lamD
  ex := exK
def lo0 : List Str := [("_wall" : Str), ("__name__" : Str), ("HoldError" : Str), ("BadProgram" : Str), ("BadPath" : Str), ("BadLimit" : Str), ("TooLarge" : Str), ("BadRegister" : Str), ("BadPlace" : Str), ("BadWord" : Str), ("BadOffers" : Str), ("is_integer" : Str), ("NAMES" : Str), ("MAX_WIDTH" : Str), ("MAX_STEPS" : Str), ("SHAPES" : Str), ("fits" : Str), ("is_step" : Str), ("Program" : Str), ("check_program" : Str), ("size_of" : Str), ("is_whole" : Str), ("fresh" : Str), ("part" : Str), ("joined" : Str), ("shelved" : Str), ("made" : Str), ("act" : Str), ("settled" : Str), ("turns" : Str), ("start_of" : Str), ("after" : Str), ("waste_of" : Str), ("is_clear" : Str), ("later_of" : Str), ("followed" : Str), ("stands" : Str), ("MAX_STANDS" : Str), ("Answer" : Str), ("Way" : Str)]
def lo1 : List Str := [("walked" : Str), ("are_heights" : Str), ("AtMost" : Str), ("NoBound" : Str), ("Over" : Str), ("check_limit" : Str), ("explored" : Str), ("road" : Str), ("path_of" : Str), ("road_round" : Str), ("ring_of" : Str), ("raised" : Str), ("top_road" : Str), ("bound_of" : Str), ("check_any" : Str), ("MAX_OFFERS" : Str), ("MAX_PRICE" : Str), ("TIGHT" : Str), ("is_spot" : Str), ("check_offers" : Str), ("check_all" : Str), ("price_of" : Str), ("lots_of" : Str), ("with_lot" : Str), ("answer_to" : Str), ("is_against_lot" : Str), ("are_against_lots" : Str), ("Tightened" : Str), ("NotTightened" : Str), ("lots" : Str), ("tightened" : Str), ("tighten" : Str), ("least_price" : Str), ("THINGS" : Str), ("Meets" : Str), ("Apart" : Str), ("check_place" : Str), ("check_thing" : Str), ("is_register" : Str), ("check_meeting" : Str)]
def lo2 : List Str := [("does_meet" : Str), ("met" : Str), ("meet" : Str), ("can_meet" : Str), ("pairs_that_meet" : Str), ("_law_cuts" : Str), ("_law_meeting_right" : Str), ("_law_tight_right" : Str)]
def loose : List Str := lo0 ++ lo1 ++ lo2
abbrev R : PySem.W.OpenRow := PySem.W.OpenLaw.row PySem.Challenge.rw_sliverhold_k45_known_all
def ob (s : PySem.W.SharedT) : AlZ := HD.obs (HandSHeadRun.getT s)
set_option maxHeartbeats 0
noncomputable abbrev eF (v : World) (os : OsState) := HandSHeadRun.endF (HandSHeadRun.stepQ (HandSHeadRun.denQ HandSHeadRun.tabQ) R.prog v) 9000 R.prog v os
noncomputable abbrev lk1 (v : World) (s : PySem.W.SharedT) : Bool := HandSHeadRun.looksF R.prog (PySem.W.boot_heap v.params) s.abs
noncomputable abbrev lk2 (s : PySem.W.SharedT) := HandSHeadRun.seenQ (PySem.W.view R.prog [96]) loose (importedModules R.prog.main.body) (fun s => PySem.W.xlAt (PySem.W.view R.prog [96]) [] s && PySem.W.recOk R.toRowW.records s) s.abs
theorem r1f (w : World) (os : OsState) : (eF (w.withFollow "special-get-raises" false) os).map (lk1 (w.withFollow "special-get-raises" false)) = some true := by kernel_rfl
theorem r2f (w : World) (os : OsState) : (eF (w.withFollow "special-get-raises" false) os).map lk2 = some (PySem.W.openGood (PySem.W.view R.prog [96]) loose) := by kernel_rfl
theorem r3f (w : World) (os : OsState) : (eF (w.withFollow "special-get-raises" false) os).map ob = some (HD.hook.val (w.withFollow "special-get-raises" false)) := by kernel_rfl
theorem r1t (w : World) (os : OsState) : (eF (w.withFollow "special-get-raises" true) os).map (lk1 (w.withFollow "special-get-raises" true)) = some true := by kernel_rfl
theorem r2t (w : World) (os : OsState) : (eF (w.withFollow "special-get-raises" true) os).map lk2 = some (PySem.W.openGood (PySem.W.view R.prog [96]) loose) := by kernel_rfl
theorem r3t (w : World) (os : OsState) : (eF (w.withFollow "special-get-raises" true) os).map ob = some (HD.hook.val (w.withFollow "special-get-raises" true)) := by kernel_rfl
set_option maxHeartbeats 3999999
section
variable {T : Tab} {P : Program} {w : World} {mg : Str → Option Value} {base : Heap} {p : Pg} {d : Nat} {qual : Str} {f : Addr} {cdv : Value} {A : Around} {outer : List Env} {s : Shared} {H : Hp} {E : XK}
abbrev N__wall : List Str := [("k" : Str)]
def e__wall (p : Pg) : EvS := (esWh (etV (evC (.bl true))) esNx)
theorem b__wall (M : Mg T mg) (Mp : ∀ j, p.pat j = patOf j) (B : Bd T (Cz T P w mg base N__wall s__wall qual f cdv A outer s H E) p d) (Cd : CdOk T (Cz T P w mg base N__wall s__wall qual f cdv A outer s H E) d) : SSs T (Cz T P w mg base N__wall s__wall qual f cdv A outer s H E) (defBody s__wall) (e__wall p) :=
  (ss_one (ss_while own_passes (st_v se_bl) (ss_one ss_pass)))

abbrev N_BadProgram_init : List Str := [("self" : Str), ("part" : Str)]
def e_BadProgram_init (p : Pg) : EvS := (esSeq (esX evBad) (esFld p 0 (evV 0) (evV 1)))
theorem b_BadProgram_init (M : Mg T mg) (Mp : ∀ j, p.pat j = patOf j) (B : Bd T (Cz T P w mg base N_BadProgram_init s_BadProgram_init qual f cdv A outer s H E) p d) (Cd : CdOk T (Cz T P w mg base N_BadProgram_init s_BadProgram_init qual f cdv A outer s H E) d) : SSs T (Cz T P w mg base N_BadProgram_init s_BadProgram_init qual f cdv A outer s H E) (defBody s_BadProgram_init) (e_BadProgram_init p) :=
  (ss_cons (ss_expr (se_bad _)) (ss_one (ss_fld 0 B (se_v 0) (se_v 1) M.nm_part)))

abbrev N_BadPath_init : List Str := [("self" : Str), ("index" : Str)]
def e_BadPath_init (p : Pg) : EvS := (esSeq (esX evBad) (esFld p 1 (evV 0) (evV 1)))
theorem b_BadPath_init (M : Mg T mg) (Mp : ∀ j, p.pat j = patOf j) (B : Bd T (Cz T P w mg base N_BadPath_init s_BadPath_init qual f cdv A outer s H E) p d) (Cd : CdOk T (Cz T P w mg base N_BadPath_init s_BadPath_init qual f cdv A outer s H E) d) : SSs T (Cz T P w mg base N_BadPath_init s_BadPath_init qual f cdv A outer s H E) (defBody s_BadPath_init) (e_BadPath_init p) :=
  (ss_cons (ss_expr (se_bad _)) (ss_one (ss_fld 1 B (se_v 0) (se_v 1) M.nm_index)))

abbrev N_is_integer : List Str := [("value" : Str)]
def e_is_integer (p : Pg) : EvS := (esRt (evAnd (evF (ivIsi p) (eaC (evV 0) (eaC (evC (.ty 2)) eaN))) (evNot (evF (ivIsi p) (eaC (evV 0) (eaC (evC (.ty 1)) eaN))))))
theorem b_is_integer (M : Mg T mg) (Mp : ∀ j, p.pat j = patOf j) (B : Bd T (Cz T P w mg base N_is_integer s_is_integer qual f cdv A outer s H E) p d) (Cd : CdOk T (Cz T P w mg base N_is_integer s_is_integer qual f cdv A outer s H E) d) : SSs T (Cz T P w mg base N_is_integer s_is_integer qual f cdv A outer s H E) (defBody s_is_integer) (e_is_integer p) :=
  (ss_one (ss_ret (se_and (se_fB (cs_isi B) rfl M.n_isinstance bt_isinstance (sa_c (se_v 0) (sa_c (se_ty 2 rfl M.n_int bt_int) sa_n))) (se_one (se_not (se_fB (cs_isi B) rfl M.n_isinstance bt_isinstance (sa_c (se_v 0) (sa_c (se_ty 1 rfl M.n_bool bt_bool) sa_n))))))))

abbrev N_fits : List Str := [("sign" : Str), ("value" : Str), ("width" : Str), ("many" : Str), ("total" : Str)]
def e_fits (p : Pg) : EvS := (esSeq (esIf (etV (evB (ivEqD false) (evV 0) (evC (.str ⟨#[114]⟩)))) (esRt (evAnd (evF (ivIsi p) (eaC (evV 1) (eaC (evC (.ty 3)) eaN))) (evB (ivInK p false (ivInD false)) (evV 1) (evSl (evC c_NAMES) eoN (eoS (evV 3)))))) esNx) (esSeq (esIf (etNot (etV (evF (p.cl 3) (eaC (evV 1) eaN)))) (esRt (evC (.bl false))) esNx) (esRt (evIf (etV (evB (ivEqD false) (evV 0) (evC (.str ⟨#[110]⟩)))) (evCh2 ivLe ivLe (evC (.int 1)) (evV 1) (evV 2)) (evCh2 ivLe ivLe (evC (.int 0)) (evV 1) (evIf (etV (evB (ivEqD false) (evV 0) (evC (.str ⟨#[112]⟩)))) (evV 4) (evV 2)))))))
theorem b_fits (M : Mg T mg) (Mp : ∀ j, p.pat j = patOf j) (B : Bd T (Cz T P w mg base N_fits s_fits qual f cdv A outer s H E) p d) (Cd : CdOk T (Cz T P w mg base N_fits s_fits qual f cdv A outer s H E) d) : SSs T (Cz T P w mg base N_fits s_fits qual f cdv A outer s H E) (defBody s_fits) (e_fits p) :=
  (ss_cons (ss_if (st_cmp (os_eqD B.K B.u64) (se_v 0) (se_str (by decide +kernel))) (ss_one (ss_ret (se_and (se_fB (cs_isi B) rfl M.n_isinstance bt_isinstance (sa_c (se_v 1) (sa_c (se_ty 3 rfl M.n_str bt_str) sa_n))) (se_one (se_cmp (os_inK (neg := false) B (os_inD B.K B.u65)) (se_v 1) (se_sl B.K (se_glE rfl M.c_NAMES) so_n (so_s (se_v 3)))))))) ss_nil) (ss_cons (ss_if (st_not (st_v (se_call 3 B rfl M.g_is_integer M.k_is_integer (sa_c (se_v 1) sa_n)))) (ss_one (ss_ret se_bl)) ss_nil) (ss_one (ss_ret (se_if (st_cmp (os_eqD B.K B.u64) (se_v 0) (se_str (by decide +kernel))) (se_ch2 (os_le) (os_le) se_int (se_v 1) (se_v 2)) (se_ch2 (os_le) (os_le) se_int (se_v 1) (se_if (st_cmp (os_eqD B.K B.u64) (se_v 0) (se_str (by decide +kernel))) (se_v 4) (se_v 2))))))))

abbrev N_is_step : List Str := [("step" : Str), ("width" : Str), ("many" : Str), ("total" : Str), ("shape" : Str), ("sign" : Str), ("value" : Str)]
def e_is_step (p : Pg) : EvS := (esSeq (esIf (etOr (etNot (etV (evF (ivIsi p) (eaC (evV 0) (eaC (evC (.ty 5)) eaN))))) (etOr (etV (evB (ivEqD false) (evV 0) (evTup eaN))) (etOr (etNot (etV (evF (ivIsi p) (eaC (evB (ivIxK p ivIx) (evV 0) (evC (.int 0))) (eaC (evC (.ty 3)) eaN))))) (etV (evB (ivInK p true (ivInD true)) (evB (ivIxK p ivIx) (evV 0) (evC (.int 0))) (evC c_SHAPES)))))) (esRt (evC (.bl false))) esNx) (esSeq (esSet 4 (evB (ivIxK p ivIx) (evC c_SHAPES) (evB (ivIxK p ivIx) (evV 0) (evC (.int 0))))) (esSeq (esIf (etV (evB (ivEqD true) (evF (ivLenK ivLen) (eaC (evV 0) eaN)) (evB ivAdd (evF (ivLenK ivLen) (eaC (evV 4) eaN)) (evC (.int 1))))) (esRt (evC (.bl false))) esNx) (esSeq (esIf (etNot (etV (evF ivAll (eaC (evLC (eiZip (evV 4) (evSl (evV 0) (eoS (evC (.int 1))) eoN)) (egT 2 (egsC (egN 5) (egsC (egN 6) egsN))) etYes (evF (p.cl 4) (eaC (evV 5) (eaC (evV 6) (eaC (evV 1) (eaC (evV 2) (eaC (evV 3) eaN)))))) [5, 6]) eaN)))) (esRt (evC (.bl false))) esNx) (esRt (evOr (evB (ivEqD true) (evB (ivIxK p ivIx) (evV 0) (evC (.int 0))) (evC (.str ⟨#[99, 117, 116]⟩))) (evB ivLe (evB (ivIxK p ivIx) (evV 0) (evC (.int 3))) (evB (ivIxK p ivIx) (evV 0) (evC (.int 4))))))))))
theorem b_is_step (M : Mg T mg) (Mp : ∀ j, p.pat j = patOf j) (B : Bd T (Cz T P w mg base N_is_step s_is_step qual f cdv A outer s H E) p d) (Cd : CdOk T (Cz T P w mg base N_is_step s_is_step qual f cdv A outer s H E) d) : SSs T (Cz T P w mg base N_is_step s_is_step qual f cdv A outer s H E) (defBody s_is_step) (e_is_step p) :=
  (ss_cons (ss_if (SW.st (sw_or (st_not (st_v (se_fB (cs_isi B) rfl M.n_isinstance bt_isinstance (sa_c (se_v 0) (sa_c (se_ty 5 rfl M.n_tuple bt_tuple) sa_n))))) (sw_or (st_cmp (os_eqD B.K B.u64) (se_v 0) (se_tup sa_n)) (sw_or (st_not (st_v (se_fB (cs_isi B) rfl M.n_isinstance bt_isinstance (sa_c (se_ix (is_ixK B (is_ix B.K)) (se_v 0) se_int) (sa_c (se_ty 3 rfl M.n_str bt_str) sa_n))))) (sw_or1 (st_cmp (os_inK (neg := true) B (os_ninD B.K B.u65)) (se_ix (is_ixK B (is_ix B.K)) (se_v 0) se_int) (se_glE rfl M.c_SHAPES))))))) (ss_one (ss_ret se_bl)) ss_nil) (ss_cons (ss_set 4 B.nd (se_ix (is_ixK B (is_ix B.K)) (se_glE rfl M.c_SHAPES) (se_ix (is_ixK B (is_ix B.K)) (se_v 0) se_int))) (ss_cons (ss_if (st_cmp (os_neD B.K B.u64) (se_fB (cs_lenK B (cs_len B.K)) rfl M.n_len bt_len (sa_c (se_v 0) sa_n)) (se_bin (os_add B.K) (se_fB (cs_lenK B (cs_len B.K)) rfl M.n_len bt_len (sa_c (se_v 4) sa_n)) se_int)) (ss_one (ss_ret se_bl)) ss_nil) (ss_cons (ss_if (st_not (st_v (se_fB (cs_all B.K B.calm) rfl M.n_all bt_all (sa_c (se_lc B.calm B.nd (si_zip B rfl M.n_zip (se_v 4) (se_sl B.K (se_v 0) (so_s se_int) so_n)) (own := [("sign", 5), ("value", 6)]) (blkOk_by (by kernel_rfl)) (fun _ _ _ _ _ => (sgo_t B.blk.K B.blk.calm (sgos_c (sgo_n 5 B.blk.nd) (sgos_c (sgo_n 6 B.blk.nd) sgos_n)))) (fun _ _ _ _ _ => spt_nil) (fun _ _ _ _ _ => (se_call 4 B.blk rfl M.g_fits M.k_fits (sa_c (se_v 5) (sa_c (se_v 6) (sa_c (se_v 1) (sa_c (se_v 2) (sa_c (se_v 3) sa_n)))))))) sa_n)))) (ss_one (ss_ret se_bl)) ss_nil) (ss_one (ss_ret (se_or (se_cmp (os_neD B.K B.u64) (se_ix (is_ixK B (is_ix B.K)) (se_v 0) se_int) (se_str (by decide +kernel))) (se_one (se_cmp (os_le) (se_ix (is_ixK B (is_ix B.K)) (se_v 0) se_int) (se_ix (is_ixK B (is_ix B.K)) (se_v 0) se_int))))))))))

abbrev N_Program_init : List Str := [("self" : Str), ("width" : Str), ("many" : Str), ("steps" : Str), ("step" : Str)]
def e_Program_init (p : Pg) : EvS := (esSeq (esIf (etOr (etNot (etV (evF (p.cl 3) (eaC (evV 1) eaN)))) (etNot (etV (evCh2 ivLe ivLe (evC (.int 1)) (evV 1) (evC c_MAX_WIDTH))))) esBad esNx) (esSeq (esIf (etOr (etNot (etV (evF (p.cl 3) (eaC (evV 2) eaN)))) (etNot (etV (evCh2 ivLe ivLe (evC (.int 1)) (evV 2) (evF (ivLenK ivLen) (eaC (evC c_NAMES) eaN)))))) esBad esNx) (esSeq (esIf (etOr (etNot (etV (evF (ivIsi p) (eaC (evV 3) (eaC (evC (.ty 5)) eaN))))) (etNot (etV (evCh2 ivLe ivLe (evC (.int 1)) (evF (ivLenK ivLen) (eaC (evV 3) eaN)) (evC c_MAX_STEPS))))) esBad esNx) (esSeq (esIf (etNot (etV (evF ivAll (eaC (evLock (evV 3) (evLC (eiAny (evV 3)) (egN 4) etYes (evF (p.cl 5) (eaC (evV 4) (eaC (evV 1) (eaC (evV 2) (eaC (evF (ivLenK ivLen) (eaC (evV 3) eaN)) eaN))))) [4])) eaN)))) esBad esNx) (esSeq (esFld p 2 (evV 0) (evV 1)) (esSeq (esFld p 3 (evV 0) (evV 2)) (esFld p 4 (evV 0) (evV 3))))))))
theorem b_Program_init (M : Mg T mg) (Mp : ∀ j, p.pat j = patOf j) (B : Bd T (Cz T P w mg base N_Program_init s_Program_init qual f cdv A outer s H E) p d) (Cd : CdOk T (Cz T P w mg base N_Program_init s_Program_init qual f cdv A outer s H E) d) : SSs T (Cz T P w mg base N_Program_init s_Program_init qual f cdv A outer s H E) (defBody s_Program_init) (e_Program_init p) :=
  (ss_cons (ss_if (SW.st (sw_or (st_not (st_v (se_call 3 B rfl M.g_is_integer M.k_is_integer (sa_c (se_v 1) sa_n)))) (sw_or1 (st_not (st_ch2 (os_le) (os_le) se_int (se_v 1) (se_glE rfl M.c_MAX_WIDTH)))))) (ss_one (ss_bad _)) ss_nil) (ss_cons (ss_if (SW.st (sw_or (st_not (st_v (se_call 3 B rfl M.g_is_integer M.k_is_integer (sa_c (se_v 2) sa_n)))) (sw_or1 (st_not (st_ch2 (os_le) (os_le) se_int (se_v 2) (se_fB (cs_lenK B (cs_len B.K)) rfl M.n_len bt_len (sa_c (se_glE rfl M.c_NAMES) sa_n))))))) (ss_one (ss_bad _)) ss_nil) (ss_cons (ss_if (SW.st (sw_or (st_not (st_v (se_fB (cs_isi B) rfl M.n_isinstance bt_isinstance (sa_c (se_v 3) (sa_c (se_ty 5 rfl M.n_tuple bt_tuple) sa_n))))) (sw_or1 (st_not (st_ch2 (os_le) (os_le) se_int (se_fB (cs_lenK B (cs_len B.K)) rfl M.n_len bt_len (sa_c (se_v 3) sa_n)) (se_glE rfl M.c_MAX_STEPS)))))) (ss_one (ss_bad _)) ss_nil) (ss_cons (ss_if (st_not (st_v (se_fB (cs_all B.K B.calm) rfl M.n_all bt_all (sa_c (se_lock (evV 3) (se_lc B.calm B.nd (si_any B (se_v 3)) (own := [("step", 4)]) (blkOk_by (by kernel_rfl)) (fun _ _ _ _ _ => (sgo_n 4 B.blk.nd)) (fun _ _ _ _ _ => spt_nil) (fun _ _ _ _ _ => (se_call 5 B.blk rfl M.g_is_step M.k_is_step (sa_c (se_v 4) (sa_c (se_v 1) (sa_c (se_v 2) (sa_c (se_fB (cs_lenK B.blk (cs_len B.blk.K)) rfl M.n_len bt_len (sa_c (se_v 3) sa_n)) sa_n)))))))) sa_n)))) (ss_one (ss_bad _)) ss_nil) (ss_cons (ss_fld 2 B (se_v 0) (se_v 1) M.nm_wide) (ss_cons (ss_fld 3 B (se_v 0) (se_v 2) M.nm_count) (ss_one (ss_fld 4 B (se_v 0) (se_v 3) M.nm_rows))))))))

abbrev N_Program_of : List Str := [("cls" : Str), ("steps" : Str), ("width" : Str), ("many" : Str)]
def e_Program_of (p : Pg) : EvS := (esRt evBad)
theorem b_Program_of (M : Mg T mg) (Mp : ∀ j, p.pat j = patOf j) (B : Bd T (Cz T P w mg base N_Program_of s_Program_of qual f cdv A outer s H E) p d) (Cd : CdOk T (Cz T P w mg base N_Program_of s_Program_of qual f cdv A outer s H E) d) : SSs T (Cz T P w mg base N_Program_of s_Program_of qual f cdv A outer s H E) (defBody s_Program_of) (e_Program_of p) :=
  (ss_one (ss_ret (se_bad _)))

abbrev N_Program_width : List Str := [("self" : Str)]
def e_Program_width (p : Pg) : EvS := (esRt (evU (getA p 2) (evV 0)))
theorem b_Program_width (M : Mg T mg) (Mp : ∀ j, p.pat j = patOf j) (B : Bd T (Cz T P w mg base N_Program_width s_Program_width qual f cdv A outer s H E) p d) (Cd : CdOk T (Cz T P w mg base N_Program_width s_Program_width qual f cdv A outer s H E) d) : SSs T (Cz T P w mg base N_Program_width s_Program_width qual f cdv A outer s H E) (defBody s_Program_width) (e_Program_width p) :=
  (ss_one (ss_ret (se_att 2 B (se_v 0) M.nm_wide)))

abbrev N_Program_many : List Str := [("self" : Str)]
def e_Program_many (p : Pg) : EvS := (esRt (evU (getA p 3) (evV 0)))
theorem b_Program_many (M : Mg T mg) (Mp : ∀ j, p.pat j = patOf j) (B : Bd T (Cz T P w mg base N_Program_many s_Program_many qual f cdv A outer s H E) p d) (Cd : CdOk T (Cz T P w mg base N_Program_many s_Program_many qual f cdv A outer s H E) d) : SSs T (Cz T P w mg base N_Program_many s_Program_many qual f cdv A outer s H E) (defBody s_Program_many) (e_Program_many p) :=
  (ss_one (ss_ret (se_att 3 B (se_v 0) M.nm_count)))

abbrev N_Program_steps : List Str := [("self" : Str)]
def e_Program_steps (p : Pg) : EvS := (esRt (evU (getA p 4) (evV 0)))
theorem b_Program_steps (M : Mg T mg) (Mp : ∀ j, p.pat j = patOf j) (B : Bd T (Cz T P w mg base N_Program_steps s_Program_steps qual f cdv A outer s H E) p d) (Cd : CdOk T (Cz T P w mg base N_Program_steps s_Program_steps qual f cdv A outer s H E) d) : SSs T (Cz T P w mg base N_Program_steps s_Program_steps qual f cdv A outer s H E) (defBody s_Program_steps) (e_Program_steps p) :=
  (ss_one (ss_ret (se_att 4 B (se_v 0) M.nm_rows)))

abbrev N_Program_eq : List Str := [("self" : Str), ("other" : Str)]
def e_Program_eq (p : Pg) : EvS := (esSeq (esIf (etNot (etV (evF (ivIsi p) (eaC (evV 1) (eaC (evC (.cls 9)) eaN))))) (esRt (evC (.bl false))) esNx) (esRt (evAnd (evB (ivEqD false) (evU (getA p 2) (evV 0)) (evU (getA p 2) (evV 1))) (evAnd (evB (ivEqD false) (evU (getA p 3) (evV 0)) (evU (getA p 3) (evV 1))) (evB (ivEqD false) (evU (getA p 4) (evV 0)) (evU (getA p 4) (evV 1)))))))
theorem b_Program_eq (M : Mg T mg) (Mp : ∀ j, p.pat j = patOf j) (B : Bd T (Cz T P w mg base N_Program_eq s_Program_eq qual f cdv A outer s H E) p d) (Cd : CdOk T (Cz T P w mg base N_Program_eq s_Program_eq qual f cdv A outer s H E) d) : SSs T (Cz T P w mg base N_Program_eq s_Program_eq qual f cdv A outer s H E) (defBody s_Program_eq) (e_Program_eq p) :=
  (ss_cons (ss_if (st_not (st_v (se_fB (cs_isi B) rfl M.n_isinstance bt_isinstance (sa_c (se_v 1) (sa_c (se_cl 9 rfl M.g_Program) sa_n))))) (ss_one (ss_ret se_bl)) ss_nil) (ss_one (ss_ret (se_and (se_cmp (os_eqD B.K B.u64) (se_att 2 B (se_v 0) M.nm_wide) (se_att 2 B (se_v 1) M.nm_wide)) (se_and (se_cmp (os_eqD B.K B.u64) (se_att 3 B (se_v 0) M.nm_count) (se_att 3 B (se_v 1) M.nm_count)) (se_one (se_cmp (os_eqD B.K B.u64) (se_att 4 B (se_v 0) M.nm_rows) (se_att 4 B (se_v 1) M.nm_rows))))))))

abbrev N_Program_len : List Str := [("self" : Str)]
def e_Program_len (p : Pg) : EvS := (esRt (evF (ivLenK ivLen) (eaC (evU (getA p 4) (evV 0)) eaN)))
theorem b_Program_len (M : Mg T mg) (Mp : ∀ j, p.pat j = patOf j) (B : Bd T (Cz T P w mg base N_Program_len s_Program_len qual f cdv A outer s H E) p d) (Cd : CdOk T (Cz T P w mg base N_Program_len s_Program_len qual f cdv A outer s H E) d) : SSs T (Cz T P w mg base N_Program_len s_Program_len qual f cdv A outer s H E) (defBody s_Program_len) (e_Program_len p) :=
  (ss_one (ss_ret (se_fB (cs_lenK B (cs_len B.K)) rfl M.n_len bt_len (sa_c (se_att 4 B (se_v 0) M.nm_rows) sa_n))))

abbrev N_Program_keeps : List Str := [("self" : Str)]
def e_Program_keeps (p : Pg) : EvS := (esX (evF (p.cl 0) (eaC (evC (.int 0)) eaN)))
theorem b_Program_keeps (M : Mg T mg) (Mp : ∀ j, p.pat j = patOf j) (B : Bd T (Cz T P w mg base N_Program_keeps s_Program_keeps qual f cdv A outer s H E) p d) (Cd : CdOk T (Cz T P w mg base N_Program_keeps s_Program_keeps qual f cdv A outer s H E) d) : SSs T (Cz T P w mg base N_Program_keeps s_Program_keeps qual f cdv A outer s H E) (defBody s_Program_keeps) (e_Program_keeps p) :=
  (ss_one (ss_expr (se_call 0 B rfl M.g__wall M.k__wall (sa_c se_int sa_n))))

abbrev N_check_program : List Str := [("program" : Str)]
def e_check_program (p : Pg) : EvS := (esIf (etNot (etV (evF (ivIsi p) (eaC (evV 0) (eaC (evC (.cls 9)) eaN))))) esBad esNx)
theorem b_check_program (M : Mg T mg) (Mp : ∀ j, p.pat j = patOf j) (B : Bd T (Cz T P w mg base N_check_program s_check_program qual f cdv A outer s H E) p d) (Cd : CdOk T (Cz T P w mg base N_check_program s_check_program qual f cdv A outer s H E) d) : SSs T (Cz T P w mg base N_check_program s_check_program qual f cdv A outer s H E) (defBody s_check_program) (e_check_program p) :=
  (ss_one (ss_if (st_not (st_v (se_fB (cs_isi B) rfl M.n_isinstance bt_isinstance (sa_c (se_v 0) (sa_c (se_cl 9 rfl M.g_Program) sa_n))))) (ss_one (ss_bad _)) ss_nil))

abbrev N_size_of : List Str := [("piece" : Str)]
def e_size_of (p : Pg) : EvS := (esRt (evIf (etV (evB (ivIs false) (evV 0) (evC .non))) (evC (.int 0)) (evB ivSub (evB (ivIxK p ivIx) (evV 0) (evC (.int 2))) (evB (ivIxK p ivIx) (evV 0) (evC (.int 1))))))
theorem b_size_of (M : Mg T mg) (Mp : ∀ j, p.pat j = patOf j) (B : Bd T (Cz T P w mg base N_size_of s_size_of qual f cdv A outer s H E) p d) (Cd : CdOk T (Cz T P w mg base N_size_of s_size_of qual f cdv A outer s H E) d) : SSs T (Cz T P w mg base N_size_of s_size_of qual f cdv A outer s H E) (defBody s_size_of) (e_size_of p) :=
  (ss_one (ss_ret (se_if (st_cmp (os_is) (se_v 0) se_non) se_int (se_bin (os_sub) (se_ix (is_ixK B (is_ix B.K)) (se_v 0) se_int) (se_ix (is_ixK B (is_ix B.K)) (se_v 0) se_int)))))

abbrev N_is_whole : List Str := [("piece" : Str), ("blocks" : Str)]
def e_is_whole (p : Pg) : EvS := (esRt (evOr (evB (ivIs false) (evV 0) (evC .non)) (evB (ivEqD false) (evF (p.cl 15) (eaC (evV 0) eaN)) (evB (ivIxK p ivIx) (evB (ivIxK p ivIx) (evV 1) (evB (ivIxK p ivIx) (evV 0) (evC (.int 0)))) (evC (.int 0))))))
theorem b_is_whole (M : Mg T mg) (Mp : ∀ j, p.pat j = patOf j) (B : Bd T (Cz T P w mg base N_is_whole s_is_whole qual f cdv A outer s H E) p d) (Cd : CdOk T (Cz T P w mg base N_is_whole s_is_whole qual f cdv A outer s H E) d) : SSs T (Cz T P w mg base N_is_whole s_is_whole qual f cdv A outer s H E) (defBody s_is_whole) (e_is_whole p) :=
  (ss_one (ss_ret (se_or (se_cmp (os_is) (se_v 0) se_non) (se_one (se_cmp (os_eqD B.K B.u64) (se_call 15 B rfl M.g_size_of M.k_size_of (sa_c (se_v 0) sa_n)) (se_ix (is_ixK B (is_ix B.K)) (se_ix (is_ixK B (is_ix B.K)) (se_v 1) (se_ix (is_ixK B (is_ix B.K)) (se_v 0) se_int)) se_int))))))

abbrev N_fresh : List Str := [("size" : Str), ("blocks" : Str)]
def e_fresh (p : Pg) : EvS := (esSeq (esIf (etV (evB (ivEqD false) (evV 0) (evC (.int 0)))) (esRt (evC .non)) esNx) (esSeq (esX (evM isLst lsAppend (evV 1) (eaC (evTup (eaC (evV 0) (eaC (evTup eaN) eaN))) eaN))) (esRt (evTup (eaC (evB ivSub (evF (ivLenK ivLen) (eaC (evV 1) eaN)) (evC (.int 1))) (eaC (evC (.int 0)) (eaC (evV 0) eaN)))))))
theorem b_fresh (M : Mg T mg) (Mp : ∀ j, p.pat j = patOf j) (B : Bd T (Cz T P w mg base N_fresh s_fresh qual f cdv A outer s H E) p d) (Cd : CdOk T (Cz T P w mg base N_fresh s_fresh qual f cdv A outer s H E) d) : SSs T (Cz T P w mg base N_fresh s_fresh qual f cdv A outer s H E) (defBody s_fresh) (e_fresh p) :=
  (ss_cons (ss_if (st_cmp (os_eqD B.K B.u64) (se_v 0) se_int) (ss_one (ss_ret se_non)) ss_nil) (ss_cons (ss_expr (se_append B (se_v 1) (sa_c (se_tup (sa_c (se_v 0) (sa_c (se_tup sa_n) sa_n))) sa_n))) (ss_one (ss_ret (se_tup (sa_c (se_bin (os_sub) (se_fB (cs_lenK B (cs_len B.K)) rfl M.n_len bt_len (sa_c (se_v 1) sa_n)) se_int) (sa_c se_int (sa_c (se_v 0) sa_n))))))))

abbrev N_part : List Str := [("piece" : Str), ("begin" : Str), ("end" : Str), ("number" : Str), ("first" : Str), ("last" : Str), ("low" : Str), ("high" : Str)]
def e_part (p : Pg) : EvS := (esSeq (esIf (etV (evB (ivIs false) (evV 0) (evC .non))) (esRt (evC .non)) esNx) (esSeq (esAs (evV 0) (egTL 3 (egsC (egN 3) (egsC (egN 4) (egsC (egN 5) egsN))))) (esSeq (esPar2 6 7 (eaC (evF ivMin (eaC (evB ivAdd (evV 4) (evV 1)) (eaC (evV 5) eaN))) (eaC (evF ivMin (eaC (evB ivAdd (evV 4) (evV 2)) (eaC (evV 5) eaN))) eaN))) (esRt (evIf (etV (evB ivLt (evV 6) (evV 7))) (evTup (eaC (evV 3) (eaC (evV 6) (eaC (evV 7) eaN)))) (evC .non))))))
theorem b_part (M : Mg T mg) (Mp : ∀ j, p.pat j = patOf j) (B : Bd T (Cz T P w mg base N_part s_part qual f cdv A outer s H E) p d) (Cd : CdOk T (Cz T P w mg base N_part s_part qual f cdv A outer s H E) d) : SSs T (Cz T P w mg base N_part s_part qual f cdv A outer s H E) (defBody s_part) (e_part p) :=
  (ss_cons (ss_if (st_cmp (os_is) (se_v 0) se_non) (ss_one (ss_ret se_non)) ss_nil) (ss_cons (ss_as (se_v 0) (sg_tl B.K B.calm (sgs_c (sg_n 3 B.nd) (sgs_c (sg_n 4 B.nd) (sgs_c (sg_n 5 B.nd) sgs_n))))) (ss_cons (ss_par2 6 7 B (sa_c (se_fB (cs_min B.calm) rfl M.n_min bt_min (sa_c (se_bin (os_add B.K) (se_v 4) (se_v 1)) (sa_c (se_v 5) sa_n))) (sa_c (se_fB (cs_min B.calm) rfl M.n_min bt_min (sa_c (se_bin (os_add B.K) (se_v 4) (se_v 2)) (sa_c (se_v 5) sa_n))) sa_n))) (ss_one (ss_ret (se_if (st_cmp (os_lt) (se_v 6) (se_v 7)) (se_tup (sa_c (se_v 3) (sa_c (se_v 6) (sa_c (se_v 7) sa_n)))) se_non))))))

abbrev N_joined : List Str := [("one" : Str), ("other" : Str), ("width" : Str), ("blocks" : Str)]
def e_joined (p : Pg) : EvS := (esSeq (esIf (etOr (etV (evB (ivIs false) (evV 0) (evC .non))) (etV (evB (ivIs false) (evV 1) (evC .non)))) (esRt (evIf (etV (evB (ivIs false) (evV 0) (evC .non))) (evV 1) (evV 0))) esNx) (esSeq (esIf (etAnd (etV (evB (ivEqD false) (evB (ivIxK p ivIx) (evV 0) (evC (.int 0))) (evB (ivIxK p ivIx) (evV 1) (evC (.int 0))))) (etV (evB (ivEqD false) (evB (ivIxK p ivIx) (evV 0) (evC (.int 2))) (evB (ivIxK p ivIx) (evV 1) (evC (.int 1)))))) (esRt (evTup (eaC (evB (ivIxK p ivIx) (evV 0) (evC (.int 0))) (eaC (evB (ivIxK p ivIx) (evV 0) (evC (.int 1))) (eaC (evB (ivIxK p ivIx) (evV 1) (evC (.int 2))) eaN))))) esNx) (esRt (evF (p.cl 17) (eaC (evF ivMin (eaC (evV 2) (eaC (evB ivAdd (evF (p.cl 15) (eaC (evV 0) eaN)) (evF (p.cl 15) (eaC (evV 1) eaN))) eaN))) (eaC (evV 3) eaN))))))
theorem b_joined (M : Mg T mg) (Mp : ∀ j, p.pat j = patOf j) (B : Bd T (Cz T P w mg base N_joined s_joined qual f cdv A outer s H E) p d) (Cd : CdOk T (Cz T P w mg base N_joined s_joined qual f cdv A outer s H E) d) : SSs T (Cz T P w mg base N_joined s_joined qual f cdv A outer s H E) (defBody s_joined) (e_joined p) :=
  (ss_cons (ss_if (SW.st (sw_or (st_cmp (os_is) (se_v 0) se_non) (sw_or1 (st_cmp (os_is) (se_v 1) se_non)))) (ss_one (ss_ret (se_if (st_cmp (os_is) (se_v 0) se_non) (se_v 1) (se_v 0)))) ss_nil) (ss_cons (ss_if (SW.st (sw_and (st_cmp (os_eqD B.K B.u64) (se_ix (is_ixK B (is_ix B.K)) (se_v 0) se_int) (se_ix (is_ixK B (is_ix B.K)) (se_v 1) se_int)) (sw_and1 (st_cmp (os_eqD B.K B.u64) (se_ix (is_ixK B (is_ix B.K)) (se_v 0) se_int) (se_ix (is_ixK B (is_ix B.K)) (se_v 1) se_int))))) (ss_one (ss_ret (se_tup (sa_c (se_ix (is_ixK B (is_ix B.K)) (se_v 0) se_int) (sa_c (se_ix (is_ixK B (is_ix B.K)) (se_v 0) se_int) (sa_c (se_ix (is_ixK B (is_ix B.K)) (se_v 1) se_int) sa_n)))))) ss_nil) (ss_one (ss_ret (se_call 17 B rfl M.g_fresh M.k_fresh (sa_c (se_fB (cs_min B.calm) rfl M.n_min bt_min (sa_c (se_v 2) (sa_c (se_bin (os_add B.K) (se_call 15 B rfl M.g_size_of M.k_size_of (sa_c (se_v 0) sa_n)) (se_call 15 B rfl M.g_size_of M.k_size_of (sa_c (se_v 1) sa_n))) sa_n))) (sa_c (se_v 3) sa_n)))))))

abbrev N_shelved : List Str := [("piece" : Str), ("blocks" : Str), ("number" : Str), ("first" : Str), ("last" : Str), ("size" : Str), ("cells" : Str), ("at" : Str)]
def e_shelved (p : Pg) : EvS := (esSeq (esAs (evV 0) (egTL 3 (egsC (egN 2) (egsC (egN 3) (egsC (egN 4) egsN))))) (esSeq (esAs (evB (ivIxK p ivIx) (evV 1) (evV 2)) (egTL 2 (egsC (egN 5) (egsC (egN 6) egsN)))) (esSub ivSet (evV 1) (evV 2) (evTup (eaC (evV 5) (eaC (evF ivTuple (eaC (evLC (eiRng1 (evV 5)) (egN 7) (etOr (etV (evB (ivInK p false (ivInD false)) (evV 7) (evV 6))) (etV (evCh2 ivLe ivLt (evV 3) (evV 7) (evV 4)))) (evV 7) [7]) eaN)) eaN))))))
theorem b_shelved (M : Mg T mg) (Mp : ∀ j, p.pat j = patOf j) (B : Bd T (Cz T P w mg base N_shelved s_shelved qual f cdv A outer s H E) p d) (Cd : CdOk T (Cz T P w mg base N_shelved s_shelved qual f cdv A outer s H E) d) : SSs T (Cz T P w mg base N_shelved s_shelved qual f cdv A outer s H E) (defBody s_shelved) (e_shelved p) :=
  (ss_cons (ss_as (se_v 0) (sg_tl B.K B.calm (sgs_c (sg_n 2 B.nd) (sgs_c (sg_n 3 B.nd) (sgs_c (sg_n 4 B.nd) sgs_n))))) (ss_cons (ss_as (se_ix (is_ixK B (is_ix B.K)) (se_v 1) (se_v 2)) (sg_tl B.K B.calm (sgs_c (sg_n 5 B.nd) (sgs_c (sg_n 6 B.nd) sgs_n)))) (ss_one (ss_sub (st_set B) (se_v 1) (se_v 2) (se_tup (sa_c (se_v 5) (sa_c (se_fT (cs_tuple B.K) rfl M.n_tuple bt_tuple (sa_c (se_lc B.calm B.nd (si_rng1 rfl M.n_range (se_v 5)) (own := [("at", 7)]) (blkOk_by (by kernel_rfl)) (fun _ _ _ _ _ => (sgo_n 7 B.blk.nd)) (fun _ _ _ _ _ => (spt_one (SW.st (sw_or (st_cmp (os_inK (neg := false) B.blk (os_inD B.blk.K B.blk.u65)) (se_v 7) (se_v 6)) (sw_or1 (st_ch2 (os_le) (os_lt) (se_v 3) (se_v 7) (se_v 4))))) takes0)) (fun _ _ _ _ _ => (se_v 7))) sa_n)) sa_n)))))))

abbrev N_made : List Str := [("step" : Str), ("width" : Str), ("held" : Str), ("blocks" : Str), ("word" : Str), ("one" : Str)]
def e_made (p : Pg) : EvS := (esSeq (esSet 4 (evB (ivIxK p ivIx) (evV 0) (evC (.int 0)))) (esSeq (esIf (etV (evB (ivEqD false) (evV 4) (evC (.str ⟨#[114, 101, 97, 100]⟩)))) (esRt (evF (p.cl 17) (eaC (evB (ivIxK p ivIx) (evV 0) (evC (.int 2))) (eaC (evV 3) eaN)))) esNx) (esSeq (esIf (etV (evB (ivEqD false) (evV 4) (evC (.str ⟨#[100, 114, 111, 112]⟩)))) (esRt (evC .non)) esNx) (esSeq (esSet 5 (evB (ivIxK p ivIx) (evV 2) (evKI l_NAMES (eaC (evB (ivIxK p ivIx) (evV 0) (evC (.int 2))) eaN)))) (esSeq (esIf (etV (evB (ivEqD false) (evV 4) (evC (.str ⟨#[99, 117, 116]⟩)))) (esRt (evF (p.cl 18) (eaC (evV 5) (eaC (evB (ivIxK p ivIx) (evV 0) (evC (.int 3))) (eaC (evB (ivIxK p ivIx) (evV 0) (evC (.int 4))) eaN))))) esNx) (esSeq (esIf (etV (evB (ivEqD false) (evV 4) (evC (.str ⟨#[106, 111, 105, 110]⟩)))) (esRt (evF (p.cl 19) (eaC (evV 5) (eaC (evB (ivIxK p ivIx) (evV 2) (evKI l_NAMES (eaC (evB (ivIxK p ivIx) (evV 0) (evC (.int 3))) eaN))) (eaC (evV 1) (eaC (evV 3) eaN)))))) esNx) (esSeq (esIf (etAnd (etV (evB (ivEqD false) (evV 4) (evC (.str ⟨#[116, 105, 103, 104, 116]⟩)))) (etNot (etV (evF (p.cl 16) (eaC (evV 5) (eaC (evV 3) eaN)))))) (esRt (evF (p.cl 17) (eaC (evF (p.cl 15) (eaC (evV 5) eaN)) (eaC (evV 3) eaN)))) esNx) (esRt (evV 5)))))))))
theorem b_made (M : Mg T mg) (Mp : ∀ j, p.pat j = patOf j) (B : Bd T (Cz T P w mg base N_made s_made qual f cdv A outer s H E) p d) (Cd : CdOk T (Cz T P w mg base N_made s_made qual f cdv A outer s H E) d) : SSs T (Cz T P w mg base N_made s_made qual f cdv A outer s H E) (defBody s_made) (e_made p) :=
  (ss_cons (ss_set 4 B.nd (se_ix (is_ixK B (is_ix B.K)) (se_v 0) se_int)) (ss_cons (ss_if (st_cmp (os_eqD B.K B.u64) (se_v 4) (se_str (by decide +kernel))) (ss_one (ss_ret (se_call 17 B rfl M.g_fresh M.k_fresh (sa_c (se_ix (is_ixK B (is_ix B.K)) (se_v 0) se_int) (sa_c (se_v 3) sa_n))))) ss_nil) (ss_cons (ss_if (st_cmp (os_eqD B.K B.u64) (se_v 4) (se_str (by decide +kernel))) (ss_one (ss_ret se_non)) ss_nil) (ss_cons (ss_set 5 B.nd (se_ix (is_ixK B (is_ix B.K)) (se_v 2) (se_kidxE B rfl M.i_NAMES (sa_c (se_ix (is_ixK B (is_ix B.K)) (se_v 0) se_int) sa_n)))) (ss_cons (ss_if (st_cmp (os_eqD B.K B.u64) (se_v 4) (se_str (by decide +kernel))) (ss_one (ss_ret (se_call 18 B rfl M.g_part M.k_part (sa_c (se_v 5) (sa_c (se_ix (is_ixK B (is_ix B.K)) (se_v 0) se_int) (sa_c (se_ix (is_ixK B (is_ix B.K)) (se_v 0) se_int) sa_n)))))) ss_nil) (ss_cons (ss_if (st_cmp (os_eqD B.K B.u64) (se_v 4) (se_str (by decide +kernel))) (ss_one (ss_ret (se_call 19 B rfl M.g_joined M.k_joined (sa_c (se_v 5) (sa_c (se_ix (is_ixK B (is_ix B.K)) (se_v 2) (se_kidxE B rfl M.i_NAMES (sa_c (se_ix (is_ixK B (is_ix B.K)) (se_v 0) se_int) sa_n))) (sa_c (se_v 1) (sa_c (se_v 3) sa_n))))))) ss_nil) (ss_cons (ss_if (SW.st (sw_and (st_cmp (os_eqD B.K B.u64) (se_v 4) (se_str (by decide +kernel))) (sw_and1 (st_not (st_v (se_call 16 B rfl M.g_is_whole M.k_is_whole (sa_c (se_v 5) (sa_c (se_v 3) sa_n)))))))) (ss_one (ss_ret (se_call 17 B rfl M.g_fresh M.k_fresh (sa_c (se_call 15 B rfl M.g_size_of M.k_size_of (sa_c (se_v 5) sa_n)) (sa_c (se_v 3) sa_n))))) ss_nil) (ss_one (ss_ret (se_v 5))))))))))

abbrev N_act : List Str := [("step" : Str), ("width" : Str), ("held" : Str), ("blocks" : Str), ("word" : Str), ("at" : Str)]
def e_act (p : Pg) : EvS := (esSeq (esSet 4 (evB (ivIxK p ivIx) (evV 0) (evC (.int 0)))) (esIf (etV (evB (ivEqD false) (evV 4) (evC (.str ⟨#[99, 108, 101, 97, 114]⟩)))) (esFor (eiRng1 (evF (ivLenK ivLen) (eaC (evV 3) eaN))) (egN 5) (esSub ivSet (evV 3) (evV 5) (evTup (eaC (evB (ivIxK p ivIx) (evB (ivIxK p ivIx) (evV 3) (evV 5)) (evC (.int 0))) (eaC (evTup eaN) eaN))))) (esIf (etV (evB (ivInK p true (ivInD true)) (evV 4) (evTup (eaC (evC (.str ⟨#[97, 115, 107]⟩)) (eaC (evC (.str ⟨#[106, 117, 109, 112]⟩)) (eaC (evC (.str ⟨#[118, 111, 105, 100]⟩)) (eaC (evC (.str ⟨#[116, 101, 108, 108]⟩)) eaN))))))) (esSeq (esSet 5 (evKI l_NAMES (eaC (evB (ivIxK p ivIx) (evV 0) (evC (.int 1))) eaN))) (esIf (etV (evB (ivInK p true (ivInD true)) (evV 4) (evTup (eaC (evC (.str ⟨#[107, 101, 101, 112]⟩)) (eaC (evC (.str ⟨#[112, 97, 99, 107]⟩)) eaN))))) (esSub ivSet (evV 2) (evV 5) (evF (p.cl 21) (eaC (evV 0) (eaC (evV 1) (eaC (evV 2) (eaC (evV 3) eaN)))))) (esIf (etAnd (etV (evB (ivIs true) (evB (ivIxK p ivIx) (evV 2) (evV 5)) (evC .non))) (etOr (etV (evB (ivEqD false) (evV 4) (evC (.str ⟨#[107, 101, 101, 112]⟩)))) (etV (evF (p.cl 16) (eaC (evB (ivIxK p ivIx) (evV 2) (evV 5)) (eaC (evV 3) eaN)))))) (esX (evF (p.cl 20) (eaC (evB (ivIxK p ivIx) (evV 2) (evV 5)) (eaC (evV 3) eaN)))) esNx))) esNx)))
theorem b_act (M : Mg T mg) (Mp : ∀ j, p.pat j = patOf j) (B : Bd T (Cz T P w mg base N_act s_act qual f cdv A outer s H E) p d) (Cd : CdOk T (Cz T P w mg base N_act s_act qual f cdv A outer s H E) d) : SSs T (Cz T P w mg base N_act s_act qual f cdv A outer s H E) (defBody s_act) (e_act p) :=
  (ss_cons (ss_set 4 B.nd (se_ix (is_ixK B (is_ix B.K)) (se_v 0) se_int)) (ss_one (ss_if (st_cmp (os_eqD B.K B.u64) (se_v 4) (se_str (by decide +kernel))) (ss_one (ss_for own_passes B.calm (si_rng1 rfl M.n_range (se_fB (cs_lenK B (cs_len B.K)) rfl M.n_len bt_len (sa_c (se_v 3) sa_n))) (sg_n 5 B.nd) (ss_one (ss_sub (st_set B) (se_v 3) (se_v 5) (se_tup (sa_c (se_ix (is_ixK B (is_ix B.K)) (se_ix (is_ixK B (is_ix B.K)) (se_v 3) (se_v 5)) se_int) (sa_c (se_tup sa_n) sa_n))))))) (ss_one (ss_if (st_cmp (os_inK (neg := true) B (os_ninD B.K B.u65)) (se_v 4) (se_tup (sa_c (se_str (by decide +kernel)) (sa_c (se_str (by decide +kernel)) (sa_c (se_str (by decide +kernel)) (sa_c (se_str (by decide +kernel)) sa_n)))))) (ss_cons (ss_set 5 B.nd (se_kidxE B rfl M.i_NAMES (sa_c (se_ix (is_ixK B (is_ix B.K)) (se_v 0) se_int) sa_n))) (ss_one (ss_if (st_cmp (os_inK (neg := true) B (os_ninD B.K B.u65)) (se_v 4) (se_tup (sa_c (se_str (by decide +kernel)) (sa_c (se_str (by decide +kernel)) sa_n)))) (ss_one (ss_sub (st_set B) (se_v 2) (se_v 5) (se_call 21 B rfl M.g_made M.k_made (sa_c (se_v 0) (sa_c (se_v 1) (sa_c (se_v 2) (sa_c (se_v 3) sa_n))))))) (ss_one (ss_if (SW.st (sw_and (st_cmp (os_isnot) (se_ix (is_ixK B (is_ix B.K)) (se_v 2) (se_v 5)) se_non) (sw_and1 (SW.st (sw_or (st_cmp (os_eqD B.K B.u64) (se_v 4) (se_str (by decide +kernel))) (sw_or1 (st_v (se_call 16 B rfl M.g_is_whole M.k_is_whole (sa_c (se_ix (is_ixK B (is_ix B.K)) (se_v 2) (se_v 5)) (sa_c (se_v 3) sa_n)))))))))) (ss_one (ss_expr (se_call 20 B rfl M.g_shelved M.k_shelved (sa_c (se_ix (is_ixK B (is_ix B.K)) (se_v 2) (se_v 5)) (sa_c (se_v 3) sa_n))))) ss_nil))))) ss_nil)))))

abbrev N_settled : List Str := [("index" : Str), ("held" : Str), ("blocks" : Str), ("numbers" : Str), ("rows" : Str), ("piece" : Str), ("some" : Str), ("gone" : Str), ("at" : Str), ("size" : Str), ("cells" : Str)]
def e_settled (p : Pg) : EvS := (esSeq (esAs (evTup (eaC (evDN false) (eaC (evLst eaN) eaN))) (egTL 2 (egsC (egN 3) (egsC (egN 4) egsN)))) (esSeq (esLock (evV 1) (esFor (eiAny (evV 1)) (egN 5) (esIf (etAnd (etV (evB (ivIs true) (evV 5) (evC .non))) (etV (evB (ivInK p true (ivInD true)) (evB (ivIxK p ivIx) (evV 5) (evC (.int 0))) (evV 3)))) (esSeq (esSub ivSet (evV 3) (evB (ivIxK p ivIx) (evV 5) (evC (.int 0))) (evF (ivLenK ivLen) (eaC (evV 4) eaN))) (esX (evM isLst lsAppend (evV 4) (eaC (evB (ivIxK p ivIx) (evV 2) (evB (ivIxK p ivIx) (evV 5) (evC (.int 0)))) eaN)))) esNx))) (esSeq (esSet 6 (evF ivTuple (eaC (evLock (evV 1) (evLC (eiAny (evV 1)) (egN 5) etYes (evIf (etV (evB (ivIs false) (evV 5) (evC .non))) (evC .non) (evTup (eaC (evB (ivIxK p ivIx) (evV 3) (evB (ivIxK p ivIx) (evV 5) (evC (.int 0)))) (eaC (evB (ivIxK p ivIx) (evV 5) (evC (.int 1))) (eaC (evB (ivIxK p ivIx) (evV 5) (evC (.int 2))) eaN))))) [5])) eaN))) (esSeq (esSet 7 (evLC (eiEnum (evV 2)) (egT 2 (egsC (egN 8) (egsC (egT 2 (egsC (egN 9) (egsC (egN 10) egsN))) egsN))) (etAnd (etV (evB (ivInK p true (ivInD true)) (evV 8) (evV 3))) (etV (evB (ivEqD true) (evV 10) (evTup eaN)))) (evB ivSub (evV 9) (evF (ivLenK ivLen) (eaC (evV 10) eaN))) [8, 9, 10])) (esRt (evTup (eaC (evTup (eaC (evV 0) (eaC (evV 6) (eaC (evF ivTuple (eaC (evV 4) eaN)) eaN)))) (eaC (evF ivSum (eaC (evV 7) eaN)) eaN))))))))
theorem b_settled (M : Mg T mg) (Mp : ∀ j, p.pat j = patOf j) (B : Bd T (Cz T P w mg base N_settled s_settled qual f cdv A outer s H E) p d) (Cd : CdOk T (Cz T P w mg base N_settled s_settled qual f cdv A outer s H E) d) : SSs T (Cz T P w mg base N_settled s_settled qual f cdv A outer s H E) (defBody s_settled) (e_settled p) :=
  (ss_cons (ss_as (se_tup (sa_c (se_dn false B) (sa_c (se_lst sa_n) sa_n))) (sg_tl B.K B.calm (sgs_c (sg_n 3 B.nd) (sgs_c (sg_n 4 B.nd) sgs_n)))) (ss_cons (ss_lock (evV 1) (ss_for own_passes B.calm (si_any B (se_v 1)) (sg_n 5 B.nd) (ss_one (ss_if (SW.st (sw_and (st_cmp (os_isnot) (se_v 5) se_non) (sw_and1 (st_cmp (os_inK (neg := true) B (os_ninD B.K B.u65)) (se_ix (is_ixK B (is_ix B.K)) (se_v 5) se_int) (se_v 3))))) (ss_cons (ss_sub (st_set B) (se_v 3) (se_ix (is_ixK B (is_ix B.K)) (se_v 5) se_int) (se_fB (cs_lenK B (cs_len B.K)) rfl M.n_len bt_len (sa_c (se_v 4) sa_n))) (ss_one (ss_expr (se_append B (se_v 4) (sa_c (se_ix (is_ixK B (is_ix B.K)) (se_v 2) (se_ix (is_ixK B (is_ix B.K)) (se_v 5) se_int)) sa_n))))) ss_nil)))) (ss_cons (ss_set 6 B.nd (se_fT (cs_tuple B.K) rfl M.n_tuple bt_tuple (sa_c (se_lock (evV 1) (se_lc B.calm B.nd (si_any B (se_v 1)) (own := [("piece", 5)]) (blkOk_by (by kernel_rfl)) (fun _ _ _ _ _ => (sgo_n 5 B.blk.nd)) (fun _ _ _ _ _ => spt_nil) (fun _ _ _ _ _ => (se_if (st_cmp (os_is) (se_v 5) se_non) se_non (se_tup (sa_c (se_ix (is_ixK B.blk (is_ix B.blk.K)) (se_v 3) (se_ix (is_ixK B.blk (is_ix B.blk.K)) (se_v 5) se_int)) (sa_c (se_ix (is_ixK B.blk (is_ix B.blk.K)) (se_v 5) se_int) (sa_c (se_ix (is_ixK B.blk (is_ix B.blk.K)) (se_v 5) se_int) sa_n)))))))) sa_n))) (ss_cons (ss_setLc 7 B.calm B.nd (si_enum B rfl M.n_enumerate (se_v 2)) (own := [("at", 8), ("size", 9), ("cells", 10)]) (blkOk_by (by kernel_rfl)) (fun _ _ _ _ _ => (sgo_t B.blk.K B.blk.calm (sgos_c (sgo_n 8 B.blk.nd) (sgos_c (sgo_t B.blk.K B.blk.calm (sgos_c (sgo_n 9 B.blk.nd) (sgos_c (sgo_n 10 B.blk.nd) sgos_n))) sgos_n)))) (fun _ _ _ _ _ => (spt_one (SW.st (sw_and (st_cmp (os_inK (neg := true) B.blk (os_ninD B.blk.K B.blk.u65)) (se_v 8) (se_v 3)) (sw_and1 (st_cmp (os_neD B.blk.K B.blk.u64) (se_v 10) (se_tup sa_n))))) takes0)) (fun _ _ _ _ _ => (se_bin (os_sub) (se_v 9) (se_fB (cs_lenK B.blk (cs_len B.blk.K)) rfl M.n_len bt_len (sa_c (se_v 10) sa_n)))) rfl) (ss_one (ss_ret (se_tup (sa_c (se_tup (sa_c (se_v 0) (sa_c (se_v 6) (sa_c (se_fT (cs_tuple B.K) rfl M.n_tuple bt_tuple (sa_c (se_v 4) sa_n)) sa_n)))) (sa_c (se_fB (cs_sum B.K B.calm) rfl M.n_sum bt_sum (sa_c (se_v 7) sa_n)) sa_n)))))))))

abbrev N_turns : List Str := [("step" : Str), ("index" : Str), ("held" : Str)]
def e_turns (p : Pg) : EvS := (esSeq (esIf (etV (evB (ivEqD false) (evB (ivIxK p ivIx) (evV 0) (evC (.int 0))) (evC (.str ⟨#[106, 117, 109, 112]⟩)))) (esRt (evLst (eaC (evB (ivIxK p ivIx) (evV 0) (evC (.int 1))) eaN))) esNx) (esSeq (esIf (etV (evB (ivEqD false) (evB (ivIxK p ivIx) (evV 0) (evC (.int 0))) (evC (.str ⟨#[97, 115, 107]⟩)))) (esRt (evB ivSrt2 (evB (ivIxK p ivIx) (evV 0) (evC (.int 1))) (evB ivAdd (evV 1) (evC (.int 1))))) esNx) (esSeq (esIf (etAnd (etV (evB (ivEqD false) (evB (ivIxK p ivIx) (evV 0) (evC (.int 0))) (evC (.str ⟨#[118, 111, 105, 100]⟩)))) (etV (evB (ivIs false) (evB (ivIxK p ivIx) (evV 2) (evKI l_NAMES (eaC (evB (ivIxK p ivIx) (evV 0) (evC (.int 1))) eaN))) (evC .non)))) (esRt (evLst (eaC (evB (ivIxK p ivIx) (evV 0) (evC (.int 2))) eaN))) esNx) (esRt (evLst (eaC (evB ivAdd (evV 1) (evC (.int 1))) eaN))))))
theorem b_turns (M : Mg T mg) (Mp : ∀ j, p.pat j = patOf j) (B : Bd T (Cz T P w mg base N_turns s_turns qual f cdv A outer s H E) p d) (Cd : CdOk T (Cz T P w mg base N_turns s_turns qual f cdv A outer s H E) d) : SSs T (Cz T P w mg base N_turns s_turns qual f cdv A outer s H E) (defBody s_turns) (e_turns p) :=
  (ss_cons (ss_if (st_cmp (os_eqD B.K B.u64) (se_ix (is_ixK B (is_ix B.K)) (se_v 0) se_int) (se_str (by decide +kernel))) (ss_one (ss_ret (se_lst (sa_c (se_ix (is_ixK B (is_ix B.K)) (se_v 0) se_int) sa_n)))) ss_nil) (ss_cons (ss_if (st_cmp (os_eqD B.K B.u64) (se_ix (is_ixK B (is_ix B.K)) (se_v 0) se_int) (se_str (by decide +kernel))) (ss_one (ss_ret (se_sortedSet B Cd.cd rfl M.n_sorted (se_ix (is_ixK B (is_ix B.K)) (se_v 0) se_int) (se_bin (os_add B.K) (se_v 1) se_int)))) ss_nil) (ss_cons (ss_if (SW.st (sw_and (st_cmp (os_eqD B.K B.u64) (se_ix (is_ixK B (is_ix B.K)) (se_v 0) se_int) (se_str (by decide +kernel))) (sw_and1 (st_cmp (os_is) (se_ix (is_ixK B (is_ix B.K)) (se_v 2) (se_kidxE B rfl M.i_NAMES (sa_c (se_ix (is_ixK B (is_ix B.K)) (se_v 0) se_int) sa_n))) se_non)))) (ss_one (ss_ret (se_lst (sa_c (se_ix (is_ixK B (is_ix B.K)) (se_v 0) se_int) sa_n)))) ss_nil) (ss_one (ss_ret (se_lst (sa_c (se_bin (os_add B.K) (se_v 1) se_int) sa_n)))))))

abbrev N_start_of : List Str := [("program" : Str)]
def e_start_of (p : Pg) : EvS := (esRt (evTup (eaC (evC (.int 0)) (eaC (evB ivMul (evTup (eaC (evC .non) eaN)) (evU (getA p 5) (evV 0))) (eaC (evTup eaN) eaN)))))
theorem b_start_of (M : Mg T mg) (Mp : ∀ j, p.pat j = patOf j) (B : Bd T (Cz T P w mg base N_start_of s_start_of qual f cdv A outer s H E) p d) (Cd : CdOk T (Cz T P w mg base N_start_of s_start_of qual f cdv A outer s H E) d) : SSs T (Cz T P w mg base N_start_of s_start_of qual f cdv A outer s H E) (defBody s_start_of) (e_start_of p) :=
  (ss_one (ss_ret (se_tup (sa_c se_int (sa_c (se_bin (os_mul B.K) (se_tup (sa_c se_non sa_n)) (se_att 5 B (se_v 0) M.nm_many)) (sa_c (se_tup sa_n) sa_n))))))

abbrev N_after : List Str := [("program" : Str), ("stand" : Str), ("index" : Str), ("held" : Str), ("blocks" : Str), ("step" : Str), ("pieces" : Str), ("rows" : Str), ("turn" : Str)]
def e_after (p : Pg) : EvS := (esSeq (esAs (evV 1) (egTL 3 (egsC (egN 2) (egsC (egN 3) (egsC (egN 4) egsN))))) (esSeq (esIf (etV (evB (ivEqD false) (evV 2) (evF (ivLenK ivLen) (eaC (evU (getA p 6) (evV 0)) eaN)))) (esRt (evLst eaN)) esNx) (esSeq (esAs (evTup (eaC (evB (ivIxK p ivIx) (evU (getA p 6) (evV 0)) (evV 2)) (eaC (evF (ivListK ivList) (eaC (evV 3) eaN)) (eaC (evF (ivListK ivList) (eaC (evV 4) eaN)) eaN)))) (egTL 3 (egsC (egN 5) (egsC (egN 6) (egsC (egN 7) egsN))))) (esSeq (esX (evF (p.cl 22) (eaC (evV 5) (eaC (evU (getA p 7) (evV 0)) (eaC (evV 6) (eaC (evV 7) eaN)))))) (esRt (evLC (eiAny (evF (p.cl 24) (eaC (evV 5) (eaC (evV 2) (eaC (evV 3) eaN))))) (egN 8) etYes (evF (p.cl 23) (eaC (evV 8) (eaC (evV 6) (eaC (evV 7) eaN)))) [8]))))))
theorem b_after (M : Mg T mg) (Mp : ∀ j, p.pat j = patOf j) (B : Bd T (Cz T P w mg base N_after s_after qual f cdv A outer s H E) p d) (Cd : CdOk T (Cz T P w mg base N_after s_after qual f cdv A outer s H E) d) : SSs T (Cz T P w mg base N_after s_after qual f cdv A outer s H E) (defBody s_after) (e_after p) :=
  (ss_cons (ss_as (se_v 1) (sg_tl B.K B.calm (sgs_c (sg_n 2 B.nd) (sgs_c (sg_n 3 B.nd) (sgs_c (sg_n 4 B.nd) sgs_n))))) (ss_cons (ss_if (st_cmp (os_eqD B.K B.u64) (se_v 2) (se_fB (cs_lenK B (cs_len B.K)) rfl M.n_len bt_len (sa_c (se_att 6 B (se_v 0) M.nm_steps) sa_n))) (ss_one (ss_ret (se_lst sa_n))) ss_nil) (ss_cons (ss_as (se_tup (sa_c (se_ix (is_ixK B (is_ix B.K)) (se_att 6 B (se_v 0) M.nm_steps) (se_v 2)) (sa_c (se_fT (cs_listK B (cs_list B.K)) rfl M.n_list bt_list (sa_c (se_v 3) sa_n)) (sa_c (se_fT (cs_listK B (cs_list B.K)) rfl M.n_list bt_list (sa_c (se_v 4) sa_n)) sa_n)))) (sg_tl B.K B.calm (sgs_c (sg_n 5 B.nd) (sgs_c (sg_n 6 B.nd) (sgs_c (sg_n 7 B.nd) sgs_n))))) (ss_cons (ss_expr (se_call 22 B rfl M.g_act M.k_act (sa_c (se_v 5) (sa_c (se_att 7 B (se_v 0) M.nm_width) (sa_c (se_v 6) (sa_c (se_v 7) sa_n)))))) (ss_one (ss_ret (se_lc B.calm B.nd (si_any B (se_call 24 B rfl M.g_turns M.k_turns (sa_c (se_v 5) (sa_c (se_v 2) (sa_c (se_v 3) sa_n))))) (own := [("turn", 8)]) (blkOk_by (by kernel_rfl)) (fun _ _ _ _ _ => (sgo_n 8 B.blk.nd)) (fun _ _ _ _ _ => spt_nil) (fun _ _ _ _ _ => (se_call 23 B.blk rfl M.g_settled M.k_settled (sa_c (se_v 8) (sa_c (se_v 6) (sa_c (se_v 7) sa_n))))))))))))

abbrev N_waste_of : List Str := [("stand" : Str), ("total" : Str), ("number" : Str), ("size" : Str), ("cells" : Str), ("spans" : Str), ("at" : Str), ("piece" : Str), ("first" : Str), ("last" : Str)]
def e_waste_of (p : Pg) : EvS := (esSeq (esSet 1 (evC (.int 0))) (esSeq (esFor (eiEnum (evB (ivIxK p ivIx) (evV 0) (evC (.int 2)))) (egT 2 (egsC (egN 2) (egsC (egT 2 (egsC (egN 3) (egsC (egN 4) egsN))) egsN))) (esSeq (esSet 5 (evLC (eiAny (evB (ivIxK p ivIx) (evV 0) (evC (.int 1)))) (egN 7) (etAnd (etV (evB (ivIs true) (evV 7) (evC .non))) (etV (evB (ivEqD false) (evB (ivIxK p ivIx) (evV 7) (evC (.int 0))) (evV 2)))) (evTup (eaC (evB (ivIxK p ivIx) (evV 7) (evC (.int 1))) (eaC (evB (ivIxK p ivIx) (evV 7) (evC (.int 2))) eaN))) [7])) (esFor (eiRng1 (evV 3)) (egN 6) (esIf (etAnd (etV (evB (ivInK p true (ivInD true)) (evV 6) (evV 4))) (etNot (etV (evF ivAny (eaC (evLock (evV 5) (evLC (eiAny (evV 5)) (egT 2 (egsC (egN 8) (egsC (egN 9) egsN))) etYes (evCh2 ivLe ivLt (evV 8) (evV 6) (evV 9)) [8, 9])) eaN))))) (esAug 1 (evC (.int 1))) esNx)))) (esRt (evV 1))))
theorem b_waste_of (M : Mg T mg) (Mp : ∀ j, p.pat j = patOf j) (B : Bd T (Cz T P w mg base N_waste_of s_waste_of qual f cdv A outer s H E) p d) (Cd : CdOk T (Cz T P w mg base N_waste_of s_waste_of qual f cdv A outer s H E) d) : SSs T (Cz T P w mg base N_waste_of s_waste_of qual f cdv A outer s H E) (defBody s_waste_of) (e_waste_of p) :=
  (ss_cons (ss_set 1 B.nd se_int) (ss_cons (ss_for own_passes B.calm (si_enum B rfl M.n_enumerate (se_ix (is_ixK B (is_ix B.K)) (se_v 0) se_int)) (sg_t B.K B.calm (sgs_c (sg_n 2 B.nd) (sgs_c (sg_t B.K B.calm (sgs_c (sg_n 3 B.nd) (sgs_c (sg_n 4 B.nd) sgs_n))) sgs_n))) (ss_cons (ss_setLc 5 B.calm B.nd (si_any B (se_ix (is_ixK B (is_ix B.K)) (se_v 0) se_int)) (own := [("piece", 7)]) (blkOk_by (by kernel_rfl)) (fun _ _ _ _ _ => (sgo_n 7 B.blk.nd)) (fun _ _ _ _ _ => (spt_one (SW.st (sw_and (st_cmp (os_isnot) (se_v 7) se_non) (sw_and1 (st_cmp (os_eqD B.blk.K B.blk.u64) (se_ix (is_ixK B.blk (is_ix B.blk.K)) (se_v 7) se_int) (se_v 2))))) takes0)) (fun _ _ _ _ _ => (se_tup (sa_c (se_ix (is_ixK B.blk (is_ix B.blk.K)) (se_v 7) se_int) (sa_c (se_ix (is_ixK B.blk (is_ix B.blk.K)) (se_v 7) se_int) sa_n)))) rfl) (ss_one (ss_for own_passes B.calm (si_rng1 rfl M.n_range (se_v 3)) (sg_n 6 B.nd) (ss_one (ss_if (SW.st (sw_and (st_cmp (os_inK (neg := true) B (os_ninD B.K B.u65)) (se_v 6) (se_v 4)) (sw_and1 (st_not (st_v (se_fB (cs_any B.K B.calm) rfl M.n_any bt_any (sa_c (se_lock (evV 5) (se_lc B.calm B.nd (si_any B (se_v 5)) (own := [("first", 8), ("last", 9)]) (blkOk_by (by kernel_rfl)) (fun _ _ _ _ _ => (sgo_t B.blk.K B.blk.calm (sgos_c (sgo_n 8 B.blk.nd) (sgos_c (sgo_n 9 B.blk.nd) sgos_n)))) (fun _ _ _ _ _ => spt_nil) (fun _ _ _ _ _ => (se_ch2 (os_le) (os_lt) (se_v 8) (se_v 6) (se_v 9))))) sa_n))))))) (ss_one (ss_aug 1 B.nd se_int)) ss_nil)))))) (ss_one (ss_ret (se_v 1)))))

abbrev N_is_clear : List Str := [("program" : Str), ("stand" : Str)]
def e_is_clear (p : Pg) : EvS := (esRt (evAnd (evB ivLt (evB (ivIxK p ivIx) (evV 1) (evC (.int 0))) (evF (ivLenK ivLen) (eaC (evU (getA p 6) (evV 0)) eaN))) (evB (ivEqD false) (evB (ivIxK p ivIx) (evU (getA p 6) (evV 0)) (evB (ivIxK p ivIx) (evV 1) (evC (.int 0)))) (evTup (eaC (evC (.str ⟨#[99, 108, 101, 97, 114]⟩)) eaN)))))
theorem b_is_clear (M : Mg T mg) (Mp : ∀ j, p.pat j = patOf j) (B : Bd T (Cz T P w mg base N_is_clear s_is_clear qual f cdv A outer s H E) p d) (Cd : CdOk T (Cz T P w mg base N_is_clear s_is_clear qual f cdv A outer s H E) d) : SSs T (Cz T P w mg base N_is_clear s_is_clear qual f cdv A outer s H E) (defBody s_is_clear) (e_is_clear p) :=
  (ss_one (ss_ret (se_and (se_cmp (os_lt) (se_ix (is_ixK B (is_ix B.K)) (se_v 1) se_int) (se_fB (cs_lenK B (cs_len B.K)) rfl M.n_len bt_len (sa_c (se_att 6 B (se_v 0) M.nm_steps) sa_n))) (se_one (se_cmp (os_eqD B.K B.u64) (se_ix (is_ixK B (is_ix B.K)) (se_att 6 B (se_v 0) M.nm_steps) (se_ix (is_ixK B (is_ix B.K)) (se_v 1) se_int)) (se_tup (sa_c (se_str (by decide +kernel)) sa_n)))))))

abbrev N_later_of : List Str := [("program" : Str), ("stand" : Str), ("index" : Str), ("some" : Str), ("pair" : Str)]
def e_later_of (p : Pg) : EvS := (esSeq (esSet 3 (evLC (eiAny (evF (p.cl 26) (eaC (evV 0) (eaC (evV 1) eaN)))) (egN 4) (etV (evB (ivEqD false) (evB (ivIxK p ivIx) (evB (ivIxK p ivIx) (evV 4) (evC (.int 0))) (evC (.int 0))) (evV 2))) (evV 4) [4])) (esRt (evIf (etV (evB (ivEqD true) (evV 3) (evLst eaN))) (evB (ivIxK p ivIx) (evV 3) (evC (.int 0))) (evC .non))))
theorem b_later_of (M : Mg T mg) (Mp : ∀ j, p.pat j = patOf j) (B : Bd T (Cz T P w mg base N_later_of s_later_of qual f cdv A outer s H E) p d) (Cd : CdOk T (Cz T P w mg base N_later_of s_later_of qual f cdv A outer s H E) d) : SSs T (Cz T P w mg base N_later_of s_later_of qual f cdv A outer s H E) (defBody s_later_of) (e_later_of p) :=
  (ss_cons (ss_setLc 3 B.calm B.nd (si_any B (se_call 26 B rfl M.g_after M.k_after (sa_c (se_v 0) (sa_c (se_v 1) sa_n)))) (own := [("pair", 4)]) (blkOk_by (by kernel_rfl)) (fun _ _ _ _ _ => (sgo_n 4 B.blk.nd)) (fun _ _ _ _ _ => (spt_one (st_cmp (os_eqD B.blk.K B.blk.u64) (se_ix (is_ixK B.blk (is_ix B.blk.K)) (se_ix (is_ixK B.blk (is_ix B.blk.K)) (se_v 4) se_int) se_int) (se_v 2)) takes0)) (fun _ _ _ _ _ => (se_v 4)) rfl) (ss_one (ss_ret (se_if (st_cmp (os_neD B.K B.u64) (se_v 3) (se_lst sa_n)) (se_ix (is_ixK B (is_ix B.K)) (se_v 3) se_int) se_non))))

abbrev N_followed : List Str := [("program" : Str), ("path" : Str), ("found" : Str), ("gone" : Str), ("at" : Str), ("stand" : Str), ("pair" : Str)]
def e_followed (p : Pg) : EvS := (esSeq (esIf (etOr (etNot (etV (evF (ivIsi p) (eaC (evV 1) (eaC (evTup (eaC (evC (.ty 4)) (eaC (evC (.ty 5)) eaN))) eaN))))) (etV (evB (ivEqD false) (evF (ivLenK ivLen) (eaC (evV 1) eaN)) (evC (.int 0))))) esBad esNx) (esSeq (esIf (etOr (etNot (etV (evF (p.cl 3) (eaC (evB (ivIxK p ivIx) (evV 1) (evC (.int 0))) eaN)))) (etV (evB (ivEqD true) (evB (ivIxK p ivIx) (evV 1) (evC (.int 0))) (evC (.int 0))))) esBad esNx) (esSeq (esPar2 2 3 (eaC (evLst (eaC (evTup (eaC (evF (p.cl 25) (eaC (evV 0) eaN)) (eaC (evC (.int 0)) eaN))) eaN)) (eaC (evC (.int 0)) eaN))) (esSeq (esFor (eiRng2 (evC (.int 1)) (evF (ivLenK ivLen) (eaC (evV 1) eaN))) (egN 4) (esSeq (esSet 5 (evB (ivIxK p ivIx) (evB (ivIxK p ivIx) (evV 2) (evU ivNeg (evC (.int 1)))) (evC (.int 0)))) (esSeq (esSet 6 (evIf (etV (evF (p.cl 3) (eaC (evB (ivIxK p ivIx) (evV 1) (evV 4)) eaN))) (evF (p.cl 29) (eaC (evV 0) (eaC (evV 5) (eaC (evB (ivIxK p ivIx) (evV 1) (evV 4)) eaN)))) (evC .non))) (esSeq (esIf (etV (evB (ivIs false) (evV 6) (evC .non))) esBad esNx) (esSeq (esSet 3 (evIf (etV (evF (p.cl 28) (eaC (evV 0) (eaC (evV 5) eaN)))) (evC (.int 0)) (evB ivAdd (evV 3) (evB (ivIxK p ivIx) (evV 6) (evC (.int 1)))))) (esX (evM isLst lsAppend (evV 2) (eaC (evTup (eaC (evB (ivIxK p ivIx) (evV 6) (evC (.int 0))) (eaC (evB ivAdd (evV 3) (evF (p.cl 27) (eaC (evB (ivIxK p ivIx) (evV 6) (evC (.int 0))) eaN))) eaN))) eaN)))))))) (esRt (evV 2))))))
theorem b_followed (M : Mg T mg) (Mp : ∀ j, p.pat j = patOf j) (B : Bd T (Cz T P w mg base N_followed s_followed qual f cdv A outer s H E) p d) (Cd : CdOk T (Cz T P w mg base N_followed s_followed qual f cdv A outer s H E) d) : SSs T (Cz T P w mg base N_followed s_followed qual f cdv A outer s H E) (defBody s_followed) (e_followed p) :=
  (ss_cons (ss_if (SW.st (sw_or (st_not (st_v (se_fB (cs_isi B) rfl M.n_isinstance bt_isinstance (sa_c (se_v 1) (sa_c (se_tup (sa_c (se_ty 4 rfl M.n_list bt_list) (sa_c (se_ty 5 rfl M.n_tuple bt_tuple) sa_n))) sa_n))))) (sw_or1 (st_cmp (os_eqD B.K B.u64) (se_fB (cs_lenK B (cs_len B.K)) rfl M.n_len bt_len (sa_c (se_v 1) sa_n)) se_int)))) (ss_one (ss_bad _)) ss_nil) (ss_cons (ss_if (SW.st (sw_or (st_not (st_v (se_call 3 B rfl M.g_is_integer M.k_is_integer (sa_c (se_ix (is_ixK B (is_ix B.K)) (se_v 1) se_int) sa_n)))) (sw_or1 (st_cmp (os_neD B.K B.u64) (se_ix (is_ixK B (is_ix B.K)) (se_v 1) se_int) se_int)))) (ss_one (ss_bad _)) ss_nil) (ss_cons (ss_par2 2 3 B (sa_c (se_lst (sa_c (se_tup (sa_c (se_call 25 B rfl M.g_start_of M.k_start_of (sa_c (se_v 0) sa_n)) (sa_c se_int sa_n))) sa_n)) (sa_c se_int sa_n))) (ss_cons (ss_for own_passes B.calm (si_rng2 rfl M.n_range se_int (se_fB (cs_lenK B (cs_len B.K)) rfl M.n_len bt_len (sa_c (se_v 1) sa_n))) (sg_n 4 B.nd) (ss_cons (ss_set 5 B.nd (se_ix (is_ixK B (is_ix B.K)) (se_ix (is_ixK B (is_ix B.K)) (se_v 2) (se_un us_neg se_int)) se_int)) (ss_cons (ss_set 6 B.nd (se_if (st_v (se_call 3 B rfl M.g_is_integer M.k_is_integer (sa_c (se_ix (is_ixK B (is_ix B.K)) (se_v 1) (se_v 4)) sa_n))) (se_call 29 B rfl M.g_later_of M.k_later_of (sa_c (se_v 0) (sa_c (se_v 5) (sa_c (se_ix (is_ixK B (is_ix B.K)) (se_v 1) (se_v 4)) sa_n)))) se_non)) (ss_cons (ss_if (st_cmp (os_is) (se_v 6) se_non) (ss_one (ss_bad _)) ss_nil) (ss_cons (ss_set 3 B.nd (se_if (st_v (se_call 28 B rfl M.g_is_clear M.k_is_clear (sa_c (se_v 0) (sa_c (se_v 5) sa_n)))) se_int (se_bin (os_add B.K) (se_v 3) (se_ix (is_ixK B (is_ix B.K)) (se_v 6) se_int)))) (ss_one (ss_expr (se_append B (se_v 2) (sa_c (se_tup (sa_c (se_ix (is_ixK B (is_ix B.K)) (se_v 6) se_int) (sa_c (se_bin (os_add B.K) (se_v 3) (se_call 27 B rfl M.g_waste_of M.k_waste_of (sa_c (se_ix (is_ixK B (is_ix B.K)) (se_v 6) se_int) sa_n))) sa_n))) sa_n))))))))) (ss_one (ss_ret (se_v 2)))))))

abbrev N_stands : List Str := [("program" : Str), ("path" : Str), ("stand" : Str), ("many" : Str)]
def e_stands (p : Pg) : EvS := (esSeq (esX (evF (p.cl 14) (eaC (evV 0) eaN))) (esRt (evLC (eiAny (evF (p.cl 30) (eaC (evV 0) (eaC (evV 1) eaN)))) (egT 2 (egsC (egN 2) (egsC (egN 3) egsN))) etYes (evV 2) [2, 3])))
theorem b_stands (M : Mg T mg) (Mp : ∀ j, p.pat j = patOf j) (B : Bd T (Cz T P w mg base N_stands s_stands qual f cdv A outer s H E) p d) (Cd : CdOk T (Cz T P w mg base N_stands s_stands qual f cdv A outer s H E) d) : SSs T (Cz T P w mg base N_stands s_stands qual f cdv A outer s H E) (defBody s_stands) (e_stands p) :=
  (ss_cons (ss_expr (se_call 14 B rfl M.g_check_program M.k_check_program (sa_c (se_v 0) sa_n))) (ss_one (ss_ret (se_lc B.calm B.nd (si_any B (se_call 30 B rfl M.g_followed M.k_followed (sa_c (se_v 0) (sa_c (se_v 1) sa_n)))) (own := [("stand", 2), ("many", 3)]) (blkOk_by (by kernel_rfl)) (fun _ _ _ _ _ => (sgo_t B.blk.K B.blk.calm (sgos_c (sgo_n 2 B.blk.nd) (sgos_c (sgo_n 3 B.blk.nd) sgos_n)))) (fun _ _ _ _ _ => spt_nil) (fun _ _ _ _ _ => (se_v 2))))))

abbrev N_Way_init : List Str := [("self" : Str), ("path" : Str)]
def e_Way_init (p : Pg) : EvS := (esFld p 8 (evV 0) (evV 1))
theorem b_Way_init (M : Mg T mg) (Mp : ∀ j, p.pat j = patOf j) (B : Bd T (Cz T P w mg base N_Way_init s_Way_init qual f cdv A outer s H E) p d) (Cd : CdOk T (Cz T P w mg base N_Way_init s_Way_init qual f cdv A outer s H E) d) : SSs T (Cz T P w mg base N_Way_init s_Way_init qual f cdv A outer s H E) (defBody s_Way_init) (e_Way_init p) :=
  (ss_one (ss_fld 8 B (se_v 0) (se_v 1) M.nm_path))

abbrev N_Way_end : List Str := [("self" : Str), ("program" : Str), ("found" : Str)]
def e_Way_end (p : Pg) : EvS := (esSeq (esX (evF (p.cl 14) (eaC (evV 1) eaN))) (esSeq (esSet 2 (evF (p.cl 34) (eaC (evV 1) (eaC (evU (getA p 8) (evV 0)) eaN)))) (esRt (evIf (etV (evB (ivIs false) (evV 2) (evC .non))) (evC .non) (evB (ivIxK p ivIx) (evB (ivIxK p ivIx) (evV 2) (evU ivNeg (evC (.int 1)))) (evC (.int 0)))))))
theorem b_Way_end (M : Mg T mg) (Mp : ∀ j, p.pat j = patOf j) (B : Bd T (Cz T P w mg base N_Way_end s_Way_end qual f cdv A outer s H E) p d) (Cd : CdOk T (Cz T P w mg base N_Way_end s_Way_end qual f cdv A outer s H E) d) : SSs T (Cz T P w mg base N_Way_end s_Way_end qual f cdv A outer s H E) (defBody s_Way_end) (e_Way_end p) :=
  (ss_cons (ss_expr (se_call 14 B rfl M.g_check_program M.k_check_program (sa_c (se_v 1) sa_n))) (ss_cons (ss_set 2 B.nd (se_call 34 B rfl M.g_walked M.k_walked (sa_c (se_v 1) (sa_c (se_att 8 B (se_v 0) M.nm_path) sa_n)))) (ss_one (ss_ret (se_if (st_cmp (os_is) (se_v 2) se_non) se_non (se_ix (is_ixK B (is_ix B.K)) (se_ix (is_ixK B (is_ix B.K)) (se_v 2) (se_un us_neg se_int)) se_int))))))

abbrev N_walked : List Str := [("program" : Str), ("path" : Str)]
def e_walked (p : Pg) : EvS := (esTry p 2 (esRt (evF (p.cl 30) (eaC (evV 0) (eaC (evV 1) eaN)))) (esRt (evC .non)))
theorem b_walked (M : Mg T mg) (Mp : ∀ j, p.pat j = patOf j) (B : Bd T (Cz T P w mg base N_walked s_walked qual f cdv A outer s H E) p d) (Cd : CdOk T (Cz T P w mg base N_walked s_walked qual f cdv A outer s H E) d) : SSs T (Cz T P w mg base N_walked s_walked qual f cdv A outer s H E) (defBody s_walked) (e_walked p) :=
  (ss_one (ss_try own_ctx 2 B rfl M.g_BadPath (fun _ _ po => (ss_one (ss_ret (se_call 30 B.tr rfl M.g_followed M.k_followed (sa_c (se_v 0) (sa_c (se_v 1) sa_n)))))) (fun _ _ => (ss_one (ss_ret se_non)))))

abbrev N_are_heights : List Str := [("program" : Str), ("heights" : Str), ("number" : Str), ("stand" : Str), ("height" : Str), ("later" : Str), ("gone" : Str)]
def e_are_heights (p : Pg) : EvS := (esSeq (esIf (etOr (etV (evB (ivInK p true (ivInD true)) (evF (p.cl 25) (eaC (evV 0) eaN)) (evV 1))) (etV (evF ivAny (eaC (evLock (evV 1) (evLC (eiAny (evV 1)) (egN 3) etYes (evB ivLt (evB (ivIxK p ivIx) (evV 1) (evV 3)) (evC (.int 0))) [3])) eaN)))) (esRt (evC (.bl false))) esNx) (esSeq (esLock (evV 1) (esFor (eiDct (fun kv => .tup [kv.1, kv.2]) (evV 1)) (egT 2 (egsC (egN 3) (egsC (egN 4) egsN))) (esSeq (esIf (etV (evB ivGt (evB ivAdd (evV 4) (evF (p.cl 27) (eaC (evV 3) eaN))) (evV 2))) (esRt (evC (.bl false))) esNx) (esFor (eiAny (evF (p.cl 26) (eaC (evV 0) (eaC (evV 3) eaN)))) (egT 2 (egsC (egN 5) (egsC (egN 6) egsN))) (esIf (etOr (etV (evB (ivInK p true (ivInD true)) (evV 5) (evV 1))) (etAnd (etNot (etV (evF (p.cl 28) (eaC (evV 0) (eaC (evV 3) eaN))))) (etV (evB ivLt (evB (ivIxK p ivIx) (evV 1) (evV 5)) (evB ivAdd (evV 4) (evV 6)))))) (esRt (evC (.bl false))) esNx))))) (esRt (evC (.bl true)))))
theorem b_are_heights (M : Mg T mg) (Mp : ∀ j, p.pat j = patOf j) (B : Bd T (Cz T P w mg base N_are_heights s_are_heights qual f cdv A outer s H E) p d) (Cd : CdOk T (Cz T P w mg base N_are_heights s_are_heights qual f cdv A outer s H E) d) : SSs T (Cz T P w mg base N_are_heights s_are_heights qual f cdv A outer s H E) (defBody s_are_heights) (e_are_heights p) :=
  (ss_cons (ss_if (SW.st (sw_or (st_cmp (os_inK (neg := true) B (os_ninD B.K B.u65)) (se_call 25 B rfl M.g_start_of M.k_start_of (sa_c (se_v 0) sa_n)) (se_v 1)) (sw_or1 (st_v (se_fB (cs_any B.K B.calm) rfl M.n_any bt_any (sa_c (se_lock (evV 1) (se_lc B.calm B.nd (si_any B (se_v 1)) (own := [("stand", 3)]) (blkOk_by (by kernel_rfl)) (fun _ _ _ _ _ => (sgo_n 3 B.blk.nd)) (fun _ _ _ _ _ => spt_nil) (fun _ _ _ _ _ => (se_cmp (os_lt) (se_ix (is_ixK B.blk (is_ix B.blk.K)) (se_v 1) (se_v 3)) se_int)))) sa_n)))))) (ss_one (ss_ret se_bl)) ss_nil) (ss_cons (ss_lock (evV 1) (ss_for own_passes B.calm (si_items B (se_v 1)) (sg_t B.K B.calm (sgs_c (sg_n 3 B.nd) (sgs_c (sg_n 4 B.nd) sgs_n))) (ss_cons (ss_if (st_cmp (os_gt) (se_bin (os_add B.K) (se_v 4) (se_call 27 B rfl M.g_waste_of M.k_waste_of (sa_c (se_v 3) sa_n))) (se_v 2)) (ss_one (ss_ret se_bl)) ss_nil) (ss_one (ss_for own_passes B.calm (si_any B (se_call 26 B rfl M.g_after M.k_after (sa_c (se_v 0) (sa_c (se_v 3) sa_n)))) (sg_t B.K B.calm (sgs_c (sg_n 5 B.nd) (sgs_c (sg_n 6 B.nd) sgs_n))) (ss_one (ss_if (SW.st (sw_or (st_cmp (os_inK (neg := true) B (os_ninD B.K B.u65)) (se_v 5) (se_v 1)) (sw_or1 (SW.st (sw_and (st_not (st_v (se_call 28 B rfl M.g_is_clear M.k_is_clear (sa_c (se_v 0) (sa_c (se_v 3) sa_n))))) (sw_and1 (st_cmp (os_lt) (se_ix (is_ixK B (is_ix B.K)) (se_v 1) (se_v 5)) (se_bin (os_add B.K) (se_v 4) (se_v 6))))))))) (ss_one (ss_ret se_bl)) ss_nil))))))) (ss_one (ss_ret se_bl))))

abbrev N_AtMost_init : List Str := [("self" : Str), ("number" : Str), ("path" : Str), ("heights" : Str), ("stand" : Str)]
def e_AtMost_init (p : Pg) : EvS := (esSeq (esX (evF (p.cl 32) (eaC (evV 0) (eaC (evV 2) eaN)))) (esSeq (esFld p 9 (evV 0) (evV 1)) (esFld p 10 (evV 0) (evLock (evV 3) (evDC true (eiAny (evV 3)) (egN 4) etYes (evV 4) (evB (ivIxK p ivIx) (evV 3) (evV 4)) [4])))))
theorem b_AtMost_init (M : Mg T mg) (Mp : ∀ j, p.pat j = patOf j) (B : Bd T (Cz T P w mg base N_AtMost_init s_AtMost_init qual f cdv A outer s H E) p d) (Cd : CdOk T (Cz T P w mg base N_AtMost_init s_AtMost_init qual f cdv A outer s H E) d) : SSs T (Cz T P w mg base N_AtMost_init s_AtMost_init qual f cdv A outer s H E) (defBody s_AtMost_init) (e_AtMost_init p) :=
  (ss_cons (ss_expr (se_cm 11 32 B rfl M.g_Way M.cf_Way_init (sa_c (se_v 0) (sa_c (se_v 2) sa_n)))) (ss_cons (ss_fld 9 B (se_v 0) (se_v 1) M.nm_number) (ss_one (ss_fld 10 B (se_v 0) (se_lock (evV 3) (se_dc true B (si_any B (se_v 3)) (own := [("stand", 4)]) (blkOk_by (by kernel_rfl)) (fun _ _ _ _ _ => (sgo_n 4 B.blk.nd)) (fun _ _ _ _ _ => spt_nil) (fun _ _ _ _ _ => (se_v 4)) (fun _ _ _ _ _ => (se_ix (is_ixK B.blk (is_ix B.blk.K)) (se_v 3) (se_v 4))))) M.nm_heights))))

abbrev N_AtMost_eq : List Str := [("self" : Str), ("other" : Str)]
def e_AtMost_eq (p : Pg) : EvS := (esSeq (esIf (etOr (etNot (etV (evF (ivIsi p) (eaC (evV 1) (eaC (evC (.cls 12)) eaN))))) (etV (evB (ivEqD true) (evU (getA p 9) (evV 0)) (evU (getA p 9) (evV 1))))) (esRt (evC (.bl false))) esNx) (esRt (evAnd (evB (ivEqD false) (evU (getA p 8) (evV 0)) (evU (getA p 8) (evV 1))) (evB (ivEqD false) (evU (getA p 10) (evV 0)) (evU (getA p 10) (evV 1))))))
theorem b_AtMost_eq (M : Mg T mg) (Mp : ∀ j, p.pat j = patOf j) (B : Bd T (Cz T P w mg base N_AtMost_eq s_AtMost_eq qual f cdv A outer s H E) p d) (Cd : CdOk T (Cz T P w mg base N_AtMost_eq s_AtMost_eq qual f cdv A outer s H E) d) : SSs T (Cz T P w mg base N_AtMost_eq s_AtMost_eq qual f cdv A outer s H E) (defBody s_AtMost_eq) (e_AtMost_eq p) :=
  (ss_cons (ss_if (SW.st (sw_or (st_not (st_v (se_fB (cs_isi B) rfl M.n_isinstance bt_isinstance (sa_c (se_v 1) (sa_c (se_cl 12 rfl M.g_AtMost) sa_n))))) (sw_or1 (st_cmp (os_neD B.K B.u64) (se_att 9 B (se_v 0) M.nm_number) (se_att 9 B (se_v 1) M.nm_number))))) (ss_one (ss_ret se_bl)) ss_nil) (ss_one (ss_ret (se_and (se_cmp (os_eqD B.K B.u64) (se_att 8 B (se_v 0) M.nm_path) (se_att 8 B (se_v 1) M.nm_path)) (se_one (se_cmp (os_eqD B.K B.u64) (se_att 10 B (se_v 0) M.nm_heights) (se_att 10 B (se_v 1) M.nm_heights)))))))

abbrev N_AtMost_shows : List Str := [("self" : Str), ("program" : Str), ("found" : Str)]
def e_AtMost_shows (p : Pg) : EvS := (esSeq (esX (evF (p.cl 14) (eaC (evV 1) eaN))) (esSeq (esSet 2 (evF (p.cl 34) (eaC (evV 1) (eaC (evU (getA p 8) (evV 0)) eaN)))) (esSeq (esIf (etOr (etV (evB (ivIs false) (evV 2) (evC .non))) (etV (evB (ivEqD true) (evB (ivIxK p ivIx) (evB (ivIxK p ivIx) (evV 2) (evU ivNeg (evC (.int 1)))) (evC (.int 1))) (evU (getA p 9) (evV 0))))) (esRt (evC (.bl false))) esNx) (esRt (evF (p.cl 35) (eaC (evV 1) (eaC (evU (getA p 10) (evV 0)) (eaC (evU (getA p 9) (evV 0)) eaN))))))))
theorem b_AtMost_shows (M : Mg T mg) (Mp : ∀ j, p.pat j = patOf j) (B : Bd T (Cz T P w mg base N_AtMost_shows s_AtMost_shows qual f cdv A outer s H E) p d) (Cd : CdOk T (Cz T P w mg base N_AtMost_shows s_AtMost_shows qual f cdv A outer s H E) d) : SSs T (Cz T P w mg base N_AtMost_shows s_AtMost_shows qual f cdv A outer s H E) (defBody s_AtMost_shows) (e_AtMost_shows p) :=
  (ss_cons (ss_expr (se_call 14 B rfl M.g_check_program M.k_check_program (sa_c (se_v 1) sa_n))) (ss_cons (ss_set 2 B.nd (se_call 34 B rfl M.g_walked M.k_walked (sa_c (se_v 1) (sa_c (se_att 8 B (se_v 0) M.nm_path) sa_n)))) (ss_cons (ss_if (SW.st (sw_or (st_cmp (os_is) (se_v 2) se_non) (sw_or1 (st_cmp (os_neD B.K B.u64) (se_ix (is_ixK B (is_ix B.K)) (se_ix (is_ixK B (is_ix B.K)) (se_v 2) (se_un us_neg se_int)) se_int) (se_att 9 B (se_v 0) M.nm_number))))) (ss_one (ss_ret se_bl)) ss_nil) (ss_one (ss_ret (se_call 35 B rfl M.g_are_heights M.k_are_heights (sa_c (se_v 1) (sa_c (se_att 10 B (se_v 0) M.nm_heights) (sa_c (se_att 9 B (se_v 0) M.nm_number) sa_n)))))))))

abbrev N_NoBound_init : List Str := [("self" : Str), ("path" : Str), ("ring" : Str)]
def e_NoBound_init (p : Pg) : EvS := (esSeq (esX (evF (p.cl 32) (eaC (evV 0) (eaC (evV 1) eaN)))) (esFld p 11 (evV 0) (evV 2)))
theorem b_NoBound_init (M : Mg T mg) (Mp : ∀ j, p.pat j = patOf j) (B : Bd T (Cz T P w mg base N_NoBound_init s_NoBound_init qual f cdv A outer s H E) p d) (Cd : CdOk T (Cz T P w mg base N_NoBound_init s_NoBound_init qual f cdv A outer s H E) d) : SSs T (Cz T P w mg base N_NoBound_init s_NoBound_init qual f cdv A outer s H E) (defBody s_NoBound_init) (e_NoBound_init p) :=
  (ss_cons (ss_expr (se_cm 11 32 B rfl M.g_Way M.cf_Way_init (sa_c (se_v 0) (sa_c (se_v 1) sa_n)))) (ss_one (ss_fld 11 B (se_v 0) (se_v 2) M.nm_ring)))

abbrev N_NoBound_eq : List Str := [("self" : Str), ("other" : Str)]
def e_NoBound_eq (p : Pg) : EvS := (esRt (evAnd (evF (ivIsi p) (eaC (evV 1) (eaC (evC (.cls 13)) eaN))) (evAnd (evB (ivEqD false) (evU (getA p 8) (evV 0)) (evU (getA p 8) (evV 1))) (evB (ivEqD false) (evU (getA p 11) (evV 0)) (evU (getA p 11) (evV 1))))))
theorem b_NoBound_eq (M : Mg T mg) (Mp : ∀ j, p.pat j = patOf j) (B : Bd T (Cz T P w mg base N_NoBound_eq s_NoBound_eq qual f cdv A outer s H E) p d) (Cd : CdOk T (Cz T P w mg base N_NoBound_eq s_NoBound_eq qual f cdv A outer s H E) d) : SSs T (Cz T P w mg base N_NoBound_eq s_NoBound_eq qual f cdv A outer s H E) (defBody s_NoBound_eq) (e_NoBound_eq p) :=
  (ss_one (ss_ret (se_and (se_fB (cs_isi B) rfl M.n_isinstance bt_isinstance (sa_c (se_v 1) (sa_c (se_cl 13 rfl M.g_NoBound) sa_n))) (se_and (se_cmp (os_eqD B.K B.u64) (se_att 8 B (se_v 0) M.nm_path) (se_att 8 B (se_v 1) M.nm_path)) (se_one (se_cmp (os_eqD B.K B.u64) (se_att 11 B (se_v 0) M.nm_ring) (se_att 11 B (se_v 1) M.nm_ring)))))))

abbrev N_NoBound_shows : List Str := [("self" : Str), ("program" : Str), ("found" : Str), ("stand" : Str), ("many" : Str)]
def e_NoBound_shows (p : Pg) : EvS := (esSeq (esX (evF (p.cl 14) (eaC (evV 1) eaN))) (esSeq (esIf (etOr (etV (evB (ivEqD false) (evU (getA p 11) (evV 0)) (evTup eaN))) (etV (evB (ivIs false) (evF (p.cl 34) (eaC (evV 1) (eaC (evU (getA p 8) (evV 0)) eaN))) (evC .non)))) (esRt (evC (.bl false))) esNx) (esSeq (esSet 2 (evF (p.cl 34) (eaC (evV 1) (eaC (evB ivAdd (evU (getA p 8) (evV 0)) (evU (getA p 11) (evV 0))) eaN)))) (esSeq (esIf (etOr (etV (evB (ivIs false) (evV 2) (evC .non))) (etV (evB (ivEqD true) (evB (ivIxK p ivIx) (evB (ivIxK p ivIx) (evV 2) (evU ivNeg (evC (.int 1)))) (evC (.int 0))) (evB (ivIxK p ivIx) (evB (ivIxK p ivIx) (evV 2) (evB ivSub (evF (ivLenK ivLen) (eaC (evU (getA p 8) (evV 0)) eaN)) (evC (.int 1)))) (evC (.int 0)))))) (esRt (evC (.bl false))) esNx) (esSeq (esIf (etV (evF ivAny (eaC (evLC (eiAny (evSl (evV 2) (eoS (evB ivSub (evF (ivLenK ivLen) (eaC (evU (getA p 8) (evV 0)) eaN)) (evC (.int 1)))) (eoS (evU ivNeg (evC (.int 1)))))) (egT 2 (egsC (egN 3) (egsC (egN 4) egsN))) etYes (evF (p.cl 28) (eaC (evV 1) (eaC (evV 3) eaN))) [3, 4]) eaN))) (esRt (evC (.bl false))) esNx) (esRt (evB ivGt (evB (ivIxK p ivIx) (evB (ivIxK p ivIx) (evV 2) (evU ivNeg (evC (.int 1)))) (evC (.int 1))) (evB (ivIxK p ivIx) (evB (ivIxK p ivIx) (evV 2) (evB ivSub (evF (ivLenK ivLen) (eaC (evU (getA p 8) (evV 0)) eaN)) (evC (.int 1)))) (evC (.int 1))))))))))
theorem b_NoBound_shows (M : Mg T mg) (Mp : ∀ j, p.pat j = patOf j) (B : Bd T (Cz T P w mg base N_NoBound_shows s_NoBound_shows qual f cdv A outer s H E) p d) (Cd : CdOk T (Cz T P w mg base N_NoBound_shows s_NoBound_shows qual f cdv A outer s H E) d) : SSs T (Cz T P w mg base N_NoBound_shows s_NoBound_shows qual f cdv A outer s H E) (defBody s_NoBound_shows) (e_NoBound_shows p) :=
  (ss_cons (ss_expr (se_call 14 B rfl M.g_check_program M.k_check_program (sa_c (se_v 1) sa_n))) (ss_cons (ss_if (SW.st (sw_or (st_cmp (os_eqD B.K B.u64) (se_att 11 B (se_v 0) M.nm_ring) (se_tup sa_n)) (sw_or1 (st_cmp (os_is) (se_call 34 B rfl M.g_walked M.k_walked (sa_c (se_v 1) (sa_c (se_att 8 B (se_v 0) M.nm_path) sa_n))) se_non)))) (ss_one (ss_ret se_bl)) ss_nil) (ss_cons (ss_set 2 B.nd (se_call 34 B rfl M.g_walked M.k_walked (sa_c (se_v 1) (sa_c (se_bin (os_add B.K) (se_att 8 B (se_v 0) M.nm_path) (se_att 11 B (se_v 0) M.nm_ring)) sa_n)))) (ss_cons (ss_if (SW.st (sw_or (st_cmp (os_is) (se_v 2) se_non) (sw_or1 (st_cmp (os_neD B.K B.u64) (se_ix (is_ixK B (is_ix B.K)) (se_ix (is_ixK B (is_ix B.K)) (se_v 2) (se_un us_neg se_int)) se_int) (se_ix (is_ixK B (is_ix B.K)) (se_ix (is_ixK B (is_ix B.K)) (se_v 2) (se_bin (os_sub) (se_fB (cs_lenK B (cs_len B.K)) rfl M.n_len bt_len (sa_c (se_att 8 B (se_v 0) M.nm_path) sa_n)) se_int)) se_int))))) (ss_one (ss_ret se_bl)) ss_nil) (ss_cons (ss_if (st_v (se_fB (cs_any B.K B.calm) rfl M.n_any bt_any (sa_c (se_lc B.calm B.nd (si_any B (se_sl B.K (se_v 2) (so_s (se_bin (os_sub) (se_fB (cs_lenK B (cs_len B.K)) rfl M.n_len bt_len (sa_c (se_att 8 B (se_v 0) M.nm_path) sa_n)) se_int)) (so_s (se_un us_neg se_int)))) (own := [("stand", 3), ("many", 4)]) (blkOk_by (by kernel_rfl)) (fun _ _ _ _ _ => (sgo_t B.blk.K B.blk.calm (sgos_c (sgo_n 3 B.blk.nd) (sgos_c (sgo_n 4 B.blk.nd) sgos_n)))) (fun _ _ _ _ _ => spt_nil) (fun _ _ _ _ _ => (se_call 28 B.blk rfl M.g_is_clear M.k_is_clear (sa_c (se_v 1) (sa_c (se_v 3) sa_n))))) sa_n))) (ss_one (ss_ret se_bl)) ss_nil) (ss_one (ss_ret (se_cmp (os_gt) (se_ix (is_ixK B (is_ix B.K)) (se_ix (is_ixK B (is_ix B.K)) (se_v 2) (se_un us_neg se_int)) se_int) (se_ix (is_ixK B (is_ix B.K)) (se_ix (is_ixK B (is_ix B.K)) (se_v 2) (se_bin (os_sub) (se_fB (cs_lenK B (cs_len B.K)) rfl M.n_len bt_len (sa_c (se_att 8 B (se_v 0) M.nm_path) sa_n)) se_int)) se_int)))))))))

abbrev N_Over_init : List Str := [("self" : Str), ("path" : Str)]
def e_Over_init (p : Pg) : EvS := (esX (evF (p.cl 32) (eaC (evV 0) (eaC (evV 1) eaN))))
theorem b_Over_init (M : Mg T mg) (Mp : ∀ j, p.pat j = patOf j) (B : Bd T (Cz T P w mg base N_Over_init s_Over_init qual f cdv A outer s H E) p d) (Cd : CdOk T (Cz T P w mg base N_Over_init s_Over_init qual f cdv A outer s H E) d) : SSs T (Cz T P w mg base N_Over_init s_Over_init qual f cdv A outer s H E) (defBody s_Over_init) (e_Over_init p) :=
  (ss_one (ss_expr (se_cm 11 32 B rfl M.g_Way M.cf_Way_init (sa_c (se_v 0) (sa_c (se_v 1) sa_n)))))

abbrev N_Over_eq : List Str := [("self" : Str), ("other" : Str)]
def e_Over_eq (p : Pg) : EvS := (esRt (evAnd (evF (ivIsi p) (eaC (evV 1) (eaC (evC (.cls 14)) eaN))) (evB (ivEqD false) (evU (getA p 8) (evV 0)) (evU (getA p 8) (evV 1)))))
theorem b_Over_eq (M : Mg T mg) (Mp : ∀ j, p.pat j = patOf j) (B : Bd T (Cz T P w mg base N_Over_eq s_Over_eq qual f cdv A outer s H E) p d) (Cd : CdOk T (Cz T P w mg base N_Over_eq s_Over_eq qual f cdv A outer s H E) d) : SSs T (Cz T P w mg base N_Over_eq s_Over_eq qual f cdv A outer s H E) (defBody s_Over_eq) (e_Over_eq p) :=
  (ss_one (ss_ret (se_and (se_fB (cs_isi B) rfl M.n_isinstance bt_isinstance (sa_c (se_v 1) (sa_c (se_cl 14 rfl M.g_Over) sa_n))) (se_one (se_cmp (os_eqD B.K B.u64) (se_att 8 B (se_v 0) M.nm_path) (se_att 8 B (se_v 1) M.nm_path))))))

abbrev N_Over_shows : List Str := [("self" : Str), ("program" : Str), ("limit" : Str), ("found" : Str)]
def e_Over_shows (p : Pg) : EvS := (esSeq (esX (evF (p.cl 14) (eaC (evV 1) eaN))) (esSeq (esX (evF (p.cl 45) (eaC (evV 2) eaN))) (esSeq (esSet 3 (evF (p.cl 34) (eaC (evV 1) (eaC (evU (getA p 8) (evV 0)) eaN)))) (esRt (evAnd (evB (ivIs true) (evV 3) (evC .non)) (evB ivGt (evB (ivIxK p ivIx) (evB (ivIxK p ivIx) (evV 3) (evU ivNeg (evC (.int 1)))) (evC (.int 1))) (evV 2)))))))
theorem b_Over_shows (M : Mg T mg) (Mp : ∀ j, p.pat j = patOf j) (B : Bd T (Cz T P w mg base N_Over_shows s_Over_shows qual f cdv A outer s H E) p d) (Cd : CdOk T (Cz T P w mg base N_Over_shows s_Over_shows qual f cdv A outer s H E) d) : SSs T (Cz T P w mg base N_Over_shows s_Over_shows qual f cdv A outer s H E) (defBody s_Over_shows) (e_Over_shows p) :=
  (ss_cons (ss_expr (se_call 14 B rfl M.g_check_program M.k_check_program (sa_c (se_v 1) sa_n))) (ss_cons (ss_expr (se_call 45 B rfl M.g_check_limit M.k_check_limit (sa_c (se_v 2) sa_n))) (ss_cons (ss_set 3 B.nd (se_call 34 B rfl M.g_walked M.k_walked (sa_c (se_v 1) (sa_c (se_att 8 B (se_v 0) M.nm_path) sa_n)))) (ss_one (ss_ret (se_and (se_cmp (os_isnot) (se_v 3) se_non) (se_one (se_cmp (os_gt) (se_ix (is_ixK B (is_ix B.K)) (se_ix (is_ixK B (is_ix B.K)) (se_v 3) (se_un us_neg se_int)) se_int) (se_v 2)))))))))

abbrev N_check_limit : List Str := [("limit" : Str)]
def e_check_limit (p : Pg) : EvS := (esIf (etOr (etNot (etV (evF (p.cl 3) (eaC (evV 0) eaN)))) (etV (evB ivLt (evV 0) (evC (.int 0))))) esBad esNx)
theorem b_check_limit (M : Mg T mg) (Mp : ∀ j, p.pat j = patOf j) (B : Bd T (Cz T P w mg base N_check_limit s_check_limit qual f cdv A outer s H E) p d) (Cd : CdOk T (Cz T P w mg base N_check_limit s_check_limit qual f cdv A outer s H E) d) : SSs T (Cz T P w mg base N_check_limit s_check_limit qual f cdv A outer s H E) (defBody s_check_limit) (e_check_limit p) :=
  (ss_one (ss_if (SW.st (sw_or (st_not (st_v (se_call 3 B rfl M.g_is_integer M.k_is_integer (sa_c (se_v 0) sa_n)))) (sw_or1 (st_cmp (os_lt) (se_v 0) se_int)))) (ss_one (ss_bad _)) ss_nil))

abbrev N_explored : List Str := [("program" : Str), ("first" : Str), ("before" : Str), ("rows" : Str), ("queue" : Str), ("stand" : Str), ("later" : Str), ("gone" : Str)]
def e_explored (p : Pg) : EvS := (esSeq (esSet 1 (evF (p.cl 25) (eaC (evV 0) eaN))) (esSeq (esPar3 2 3 4 (eaC (evDD true (epC (evV 1) (evC .non) epN)) (eaC (evDN true) (eaC (evLst (eaC (evV 1) eaN)) eaN)))) (esSeq (esWh (etV (evB (ivEqD true) (evV 4) (evLst eaN))) (esSeq (esSet 5 (evM isLst lsPop (evV 4) (eaC (evC (.int 0)) eaN))) (esSeq (esSub ivSet (evV 3) (evV 5) (evF (p.cl 26) (eaC (evV 0) (eaC (evV 5) eaN)))) (esSeq (esFor (eiAny (evB (ivIxK p ivIx) (evV 3) (evV 5))) (egT 2 (egsC (egN 6) (egsC (egN 7) egsN))) (esIf (etV (evB (ivInK p true (ivInD true)) (evV 6) (evV 2))) (esSeq (esSub ivSet (evV 2) (evV 6) (evV 5)) (esX (evM isLst lsAppend (evV 4) (eaC (evV 6) eaN)))) esNx)) (esIf (etV (evB ivGt (evF (ivLenK ivLen) (eaC (evV 2) eaN)) (evC c_MAX_STANDS))) esBad esNx))))) (esRt (evTup (eaC (evV 3) (eaC (evV 2) eaN)))))))
theorem b_explored (M : Mg T mg) (Mp : ∀ j, p.pat j = patOf j) (B : Bd T (Cz T P w mg base N_explored s_explored qual f cdv A outer s H E) p d) (Cd : CdOk T (Cz T P w mg base N_explored s_explored qual f cdv A outer s H E) d) : SSs T (Cz T P w mg base N_explored s_explored qual f cdv A outer s H E) (defBody s_explored) (e_explored p) :=
  (ss_cons (ss_set 1 B.nd (se_call 25 B rfl M.g_start_of M.k_start_of (sa_c (se_v 0) sa_n))) (ss_cons (ss_par3 2 3 4 B (sa_c (se_dd true B (sp_c (se_v 1) se_non sp_n)) (sa_c (se_dn true B) (sa_c (se_lst (sa_c (se_v 1) sa_n)) sa_n)))) (ss_cons (ss_while own_passes (st_cmp (os_neD B.K B.u64) (se_v 4) (se_lst sa_n)) (ss_cons (ss_set 5 B.nd (se_pop B (se_v 4) (sa_c se_int sa_n))) (ss_cons (ss_sub (st_set B) (se_v 3) (se_v 5) (se_call 26 B rfl M.g_after M.k_after (sa_c (se_v 0) (sa_c (se_v 5) sa_n)))) (ss_cons (ss_for own_passes B.calm (si_any B (se_ix (is_ixK B (is_ix B.K)) (se_v 3) (se_v 5))) (sg_t B.K B.calm (sgs_c (sg_n 6 B.nd) (sgs_c (sg_n 7 B.nd) sgs_n))) (ss_one (ss_if (st_cmp (os_inK (neg := true) B (os_ninD B.K B.u65)) (se_v 6) (se_v 2)) (ss_cons (ss_sub (st_set B) (se_v 2) (se_v 6) (se_v 5)) (ss_one (ss_expr (se_append B (se_v 4) (sa_c (se_v 6) sa_n))))) ss_nil))) (ss_one (ss_if (st_cmp (os_gt) (se_fB (cs_lenK B (cs_len B.K)) rfl M.n_len bt_len (sa_c (se_v 2) sa_n)) (se_glE rfl M.c_MAX_STANDS)) (ss_one (ss_bad _)) ss_nil)))))) (ss_one (ss_ret (se_tup (sa_c (se_v 3) (sa_c (se_v 2) sa_n))))))))

abbrev N_road : List Str := [("before" : Str), ("stand" : Str), ("found" : Str)]
def e_road (p : Pg) : EvS := (esSeq (esSet 2 (evLst (eaC (evV 1) eaN))) (esSeq (esWh (etV (evB (ivIs true) (evB (ivIxK p ivIx) (evV 0) (evB (ivIxK p ivIx) (evV 2) (evC (.int 0)))) (evC .non))) (esX (evM isLst lsInsert (evV 2) (eaC (evC (.int 0)) (eaC (evB (ivIxK p ivIx) (evV 0) (evB (ivIxK p ivIx) (evV 2) (evC (.int 0)))) eaN))))) (esRt (evV 2))))
theorem b_road (M : Mg T mg) (Mp : ∀ j, p.pat j = patOf j) (B : Bd T (Cz T P w mg base N_road s_road qual f cdv A outer s H E) p d) (Cd : CdOk T (Cz T P w mg base N_road s_road qual f cdv A outer s H E) d) : SSs T (Cz T P w mg base N_road s_road qual f cdv A outer s H E) (defBody s_road) (e_road p) :=
  (ss_cons (ss_set 2 B.nd (se_lst (sa_c (se_v 1) sa_n))) (ss_cons (ss_while own_passes (st_cmp (os_isnot) (se_ix (is_ixK B (is_ix B.K)) (se_v 0) (se_ix (is_ixK B (is_ix B.K)) (se_v 2) se_int)) se_non) (ss_one (ss_expr (se_insert B (se_v 2) (sa_c se_int (sa_c (se_ix (is_ixK B (is_ix B.K)) (se_v 0) (se_ix (is_ixK B (is_ix B.K)) (se_v 2) se_int)) sa_n)))))) (ss_one (ss_ret (se_v 2)))))

abbrev N_path_of : List Str := [("stands" : Str), ("stand" : Str)]
def e_path_of (p : Pg) : EvS := (esRt (evF ivTuple (eaC (evLock (evV 0) (evLC (eiAny (evV 0)) (egN 1) etYes (evB (ivIxK p ivIx) (evV 1) (evC (.int 0))) [1])) eaN)))
theorem b_path_of (M : Mg T mg) (Mp : ∀ j, p.pat j = patOf j) (B : Bd T (Cz T P w mg base N_path_of s_path_of qual f cdv A outer s H E) p d) (Cd : CdOk T (Cz T P w mg base N_path_of s_path_of qual f cdv A outer s H E) d) : SSs T (Cz T P w mg base N_path_of s_path_of qual f cdv A outer s H E) (defBody s_path_of) (e_path_of p) :=
  (ss_one (ss_ret (se_fT (cs_tuple B.K) rfl M.n_tuple bt_tuple (sa_c (se_lock (evV 0) (se_lc B.calm B.nd (si_any B (se_v 0)) (own := [("stand", 1)]) (blkOk_by (by kernel_rfl)) (fun _ _ _ _ _ => (sgo_n 1 B.blk.nd)) (fun _ _ _ _ _ => spt_nil) (fun _ _ _ _ _ => (se_ix (is_ixK B.blk (is_ix B.blk.K)) (se_v 1) se_int)))) sa_n))))

abbrev N_road_round : List Str := [("program" : Str), ("rows" : Str), ("begin" : Str), ("goal" : Str), ("before" : Str), ("queue" : Str), ("stand" : Str), ("later" : Str), ("gone" : Str)]
def e_road_round (p : Pg) : EvS := (esSeq (esPar2 4 5 (eaC (evDD true (epC (evV 2) (evC .non) epN)) (eaC (evLst (eaC (evV 2) eaN)) eaN))) (esSeq (esWh (etV (evB (ivEqD true) (evV 5) (evLst eaN))) (esSeq (esSet 6 (evM isLst lsPop (evV 5) (eaC (evC (.int 0)) eaN))) (esSeq (esIf (etV (evB (ivEqD false) (evV 6) (evV 3))) (esRt (evF (p.cl 47) (eaC (evV 4) (eaC (evV 3) eaN)))) esNx) (esIf (etNot (etV (evF (p.cl 28) (eaC (evV 0) (eaC (evV 6) eaN))))) (esFor (eiAny (evB (ivIxK p ivIx) (evV 1) (evV 6))) (egT 2 (egsC (egN 7) (egsC (egN 8) egsN))) (esIf (etV (evB (ivInK p true (ivInD true)) (evV 7) (evV 4))) (esSeq (esSub ivSet (evV 4) (evV 7) (evV 6)) (esX (evM isLst lsAppend (evV 5) (eaC (evV 7) eaN)))) esNx)) esNx)))) (esRt (evC .non))))
theorem b_road_round (M : Mg T mg) (Mp : ∀ j, p.pat j = patOf j) (B : Bd T (Cz T P w mg base N_road_round s_road_round qual f cdv A outer s H E) p d) (Cd : CdOk T (Cz T P w mg base N_road_round s_road_round qual f cdv A outer s H E) d) : SSs T (Cz T P w mg base N_road_round s_road_round qual f cdv A outer s H E) (defBody s_road_round) (e_road_round p) :=
  (ss_cons (ss_par2 4 5 B (sa_c (se_dd true B (sp_c (se_v 2) se_non sp_n)) (sa_c (se_lst (sa_c (se_v 2) sa_n)) sa_n))) (ss_cons (ss_while own_passes (st_cmp (os_neD B.K B.u64) (se_v 5) (se_lst sa_n)) (ss_cons (ss_set 6 B.nd (se_pop B (se_v 5) (sa_c se_int sa_n))) (ss_cons (ss_if (st_cmp (os_eqD B.K B.u64) (se_v 6) (se_v 3)) (ss_one (ss_ret (se_call 47 B rfl M.g_road M.k_road (sa_c (se_v 4) (sa_c (se_v 3) sa_n))))) ss_nil) (ss_one (ss_if (st_not (st_v (se_call 28 B rfl M.g_is_clear M.k_is_clear (sa_c (se_v 0) (sa_c (se_v 6) sa_n))))) (ss_one (ss_for own_passes B.calm (si_any B (se_ix (is_ixK B (is_ix B.K)) (se_v 1) (se_v 6))) (sg_t B.K B.calm (sgs_c (sg_n 7 B.nd) (sgs_c (sg_n 8 B.nd) sgs_n))) (ss_one (ss_if (st_cmp (os_inK (neg := true) B (os_ninD B.K B.u65)) (se_v 7) (se_v 4)) (ss_cons (ss_sub (st_set B) (se_v 4) (se_v 7) (se_v 6)) (ss_one (ss_expr (se_append B (se_v 5) (sa_c (se_v 7) sa_n))))) ss_nil)))) ss_nil))))) (ss_one (ss_ret se_non))))

abbrev N_ring_of : List Str := [("program" : Str), ("rows" : Str), ("stand" : Str), ("later" : Str), ("gone" : Str), ("found" : Str)]
def e_ring_of (p : Pg) : EvS := (esSeq (esLock (evV 1) (esFor (eiAny (evV 1)) (egN 2) (esFor (eiAny (evB (ivIxK p ivIx) (evV 1) (evV 2))) (egT 2 (egsC (egN 3) (egsC (egN 4) egsN))) (esIf (etV (evB ivGt (evV 4) (evC (.int 0)))) (esSeq (esSet 5 (evF (p.cl 49) (eaC (evV 0) (eaC (evV 1) (eaC (evV 3) (eaC (evV 2) eaN)))))) (esIf (etV (evB (ivIs true) (evV 5) (evC .non))) (esRt (evTup (eaC (evV 2) (eaC (evV 5) eaN)))) esNx)) esNx)))) (esRt (evC .non)))
theorem b_ring_of (M : Mg T mg) (Mp : ∀ j, p.pat j = patOf j) (B : Bd T (Cz T P w mg base N_ring_of s_ring_of qual f cdv A outer s H E) p d) (Cd : CdOk T (Cz T P w mg base N_ring_of s_ring_of qual f cdv A outer s H E) d) : SSs T (Cz T P w mg base N_ring_of s_ring_of qual f cdv A outer s H E) (defBody s_ring_of) (e_ring_of p) :=
  (ss_cons (ss_lock (evV 1) (ss_for own_passes B.calm (si_any B (se_v 1)) (sg_n 2 B.nd) (ss_one (ss_for own_passes B.calm (si_any B (se_ix (is_ixK B (is_ix B.K)) (se_v 1) (se_v 2))) (sg_t B.K B.calm (sgs_c (sg_n 3 B.nd) (sgs_c (sg_n 4 B.nd) sgs_n))) (ss_one (ss_if (st_cmp (os_gt) (se_v 4) se_int) (ss_cons (ss_set 5 B.nd (se_call 49 B rfl M.g_road_round M.k_road_round (sa_c (se_v 0) (sa_c (se_v 1) (sa_c (se_v 3) (sa_c (se_v 2) sa_n)))))) (ss_one (ss_if (st_cmp (os_isnot) (se_v 5) se_non) (ss_one (ss_ret (se_tup (sa_c (se_v 2) (sa_c (se_v 5) sa_n))))) ss_nil))) ss_nil)))))) (ss_one (ss_ret se_non)))

abbrev N_raised : List Str := [("program" : Str), ("rows" : Str), ("first" : Str), ("heights" : Str), ("sources" : Str), ("queue" : Str), ("stand" : Str), ("cleared" : Str), ("later" : Str), ("gone" : Str), ("height" : Str)]
def e_raised (p : Pg) : EvS := (esSeq (esSet 2 (evF (p.cl 25) (eaC (evV 0) eaN))) (esSeq (esPar3 3 4 5 (eaC (evDD true (epC (evV 2) (evC (.int 0)) epN)) (eaC (evDD true (epC (evV 2) (evC .non) epN)) (eaC (evLst (eaC (evV 2) eaN)) eaN)))) (esSeq (esWh (etV (evB (ivEqD true) (evV 5) (evLst eaN))) (esSeq (esSet 6 (evM isLst lsPop (evV 5) (eaC (evC (.int 0)) eaN))) (esSeq (esSet 7 (evF (p.cl 28) (eaC (evV 0) (eaC (evV 6) eaN)))) (esFor (eiAny (evB (ivIxK p ivIx) (evV 1) (evV 6))) (egT 2 (egsC (egN 8) (egsC (egN 9) egsN))) (esSeq (esSet 10 (evIf (etV (evV 7)) (evC (.int 0)) (evB ivAdd (evB (ivIxK p ivIx) (evV 3) (evV 6)) (evV 9)))) (esIf (etOr (etV (evB (ivInK p true (ivInD true)) (evV 8) (evV 3))) (etV (evB ivLt (evB (ivIxK p ivIx) (evV 3) (evV 8)) (evV 10)))) (esSeq (esSub ivSet (evV 3) (evV 8) (evV 10)) (esSeq (esSub ivSet (evV 4) (evV 8) (evTup (eaC (evV 6) (eaC (evV 7) eaN)))) (esX (evM isLst lsAppend (evV 5) (eaC (evV 8) eaN))))) esNx)))))) (esRt (evTup (eaC (evV 3) (eaC (evV 4) eaN)))))))
theorem b_raised (M : Mg T mg) (Mp : ∀ j, p.pat j = patOf j) (B : Bd T (Cz T P w mg base N_raised s_raised qual f cdv A outer s H E) p d) (Cd : CdOk T (Cz T P w mg base N_raised s_raised qual f cdv A outer s H E) d) : SSs T (Cz T P w mg base N_raised s_raised qual f cdv A outer s H E) (defBody s_raised) (e_raised p) :=
  (ss_cons (ss_set 2 B.nd (se_call 25 B rfl M.g_start_of M.k_start_of (sa_c (se_v 0) sa_n))) (ss_cons (ss_par3 3 4 5 B (sa_c (se_dd true B (sp_c (se_v 2) se_int sp_n)) (sa_c (se_dd true B (sp_c (se_v 2) se_non sp_n)) (sa_c (se_lst (sa_c (se_v 2) sa_n)) sa_n)))) (ss_cons (ss_while own_passes (st_cmp (os_neD B.K B.u64) (se_v 5) (se_lst sa_n)) (ss_cons (ss_set 6 B.nd (se_pop B (se_v 5) (sa_c se_int sa_n))) (ss_cons (ss_set 7 B.nd (se_call 28 B rfl M.g_is_clear M.k_is_clear (sa_c (se_v 0) (sa_c (se_v 6) sa_n)))) (ss_one (ss_for own_passes B.calm (si_any B (se_ix (is_ixK B (is_ix B.K)) (se_v 1) (se_v 6))) (sg_t B.K B.calm (sgs_c (sg_n 8 B.nd) (sgs_c (sg_n 9 B.nd) sgs_n))) (ss_cons (ss_set 10 B.nd (se_if (st_v (se_v 7)) se_int (se_bin (os_add B.K) (se_ix (is_ixK B (is_ix B.K)) (se_v 3) (se_v 6)) (se_v 9)))) (ss_one (ss_if (SW.st (sw_or (st_cmp (os_inK (neg := true) B (os_ninD B.K B.u65)) (se_v 8) (se_v 3)) (sw_or1 (st_cmp (os_lt) (se_ix (is_ixK B (is_ix B.K)) (se_v 3) (se_v 8)) (se_v 10))))) (ss_cons (ss_sub (st_set B) (se_v 3) (se_v 8) (se_v 10)) (ss_cons (ss_sub (st_set B) (se_v 4) (se_v 8) (se_tup (sa_c (se_v 6) (sa_c (se_v 7) sa_n)))) (ss_one (ss_expr (se_append B (se_v 5) (sa_c (se_v 8) sa_n)))))) ss_nil)))))))) (ss_one (ss_ret (se_tup (sa_c (se_v 3) (sa_c (se_v 4) sa_n))))))))

abbrev N_top_road : List Str := [("before" : Str), ("sources" : Str), ("goal" : Str), ("found" : Str), ("stand" : Str), ("cleared" : Str)]
def e_top_road (p : Pg) : EvS := (esSeq (esSet 3 (evLst (eaC (evV 2) eaN))) (esSeq (esWh (etV (evB (ivIs true) (evB (ivIxK p ivIx) (evV 1) (evB (ivIxK p ivIx) (evV 3) (evC (.int 0)))) (evC .non))) (esSeq (esAs (evB (ivIxK p ivIx) (evV 1) (evB (ivIxK p ivIx) (evV 3) (evC (.int 0)))) (egTL 2 (egsC (egN 4) (egsC (egN 5) egsN)))) (esSeq (esIf (etV (evV 5)) (esRt (evB ivAdd (evF (p.cl 47) (eaC (evV 0) (eaC (evV 4) eaN))) (evV 3))) esNx) (esX (evM isLst lsInsert (evV 3) (eaC (evC (.int 0)) (eaC (evV 4) eaN))))))) (esRt (evV 3))))
theorem b_top_road (M : Mg T mg) (Mp : ∀ j, p.pat j = patOf j) (B : Bd T (Cz T P w mg base N_top_road s_top_road qual f cdv A outer s H E) p d) (Cd : CdOk T (Cz T P w mg base N_top_road s_top_road qual f cdv A outer s H E) d) : SSs T (Cz T P w mg base N_top_road s_top_road qual f cdv A outer s H E) (defBody s_top_road) (e_top_road p) :=
  (ss_cons (ss_set 3 B.nd (se_lst (sa_c (se_v 2) sa_n))) (ss_cons (ss_while own_passes (st_cmp (os_isnot) (se_ix (is_ixK B (is_ix B.K)) (se_v 1) (se_ix (is_ixK B (is_ix B.K)) (se_v 3) se_int)) se_non) (ss_cons (ss_as (se_ix (is_ixK B (is_ix B.K)) (se_v 1) (se_ix (is_ixK B (is_ix B.K)) (se_v 3) se_int)) (sg_tl B.K B.calm (sgs_c (sg_n 4 B.nd) (sgs_c (sg_n 5 B.nd) sgs_n)))) (ss_cons (ss_if (st_v (se_v 5)) (ss_one (ss_ret (se_bin (os_add B.K) (se_call 47 B rfl M.g_road M.k_road (sa_c (se_v 0) (sa_c (se_v 4) sa_n))) (se_v 3)))) ss_nil) (ss_one (ss_expr (se_insert B (se_v 3) (sa_c se_int (sa_c (se_v 4) sa_n)))))))) (ss_one (ss_ret (se_v 3)))))

abbrev N_bound_of : List Str := [("program" : Str), ("rows" : Str), ("before" : Str), ("ring" : Str), ("heights" : Str), ("sources" : Str), ("best" : Str), ("stand" : Str)]
def e_bound_of (p : Pg) : EvS := (esSeq (esAs (evF (p.cl 46) (eaC (evV 0) eaN)) (egTL 2 (egsC (egN 1) (egsC (egN 2) egsN)))) (esSeq (esSet 3 (evF (p.cl 50) (eaC (evV 0) (eaC (evV 1) eaN)))) (esSeq (esIf (etV (evB (ivIs true) (evV 3) (evC .non))) (esRt (evF (mkI p 13) (eaC (evF (p.cl 48) (eaC (evF (p.cl 47) (eaC (evV 2) (eaC (evB (ivIxK p ivIx) (evV 3) (evC (.int 0))) eaN))) eaN)) (eaC (evF (p.cl 48) (eaC (evB (ivIxK p ivIx) (evV 3) (evC (.int 1))) eaN)) eaN)))) esNx) (esSeq (esAs (evF (p.cl 51) (eaC (evV 0) (eaC (evV 1) eaN))) (egTL 2 (egsC (egN 4) (egsC (egN 5) egsN)))) (esSeq (esSet 6 (evF (p.cl 25) (eaC (evV 0) eaN))) (esSeq (esLock (evV 4) (esFor (eiAny (evV 4)) (egN 7) (esIf (etV (evB ivGt (evB ivAdd (evB (ivIxK p ivIx) (evV 4) (evV 7)) (evF (p.cl 27) (eaC (evV 7) eaN))) (evB ivAdd (evB (ivIxK p ivIx) (evV 4) (evV 6)) (evF (p.cl 27) (eaC (evV 6) eaN))))) (esSet 6 (evV 7)) esNx))) (esRt (evF (mkI p 12) (eaC (evB ivAdd (evB (ivIxK p ivIx) (evV 4) (evV 6)) (evF (p.cl 27) (eaC (evV 6) eaN))) (eaC (evF (p.cl 48) (eaC (evF (p.cl 52) (eaC (evV 2) (eaC (evV 5) (eaC (evV 6) eaN)))) eaN)) (eaC (evV 4) eaN)))))))))))
theorem b_bound_of (M : Mg T mg) (Mp : ∀ j, p.pat j = patOf j) (B : Bd T (Cz T P w mg base N_bound_of s_bound_of qual f cdv A outer s H E) p d) (Cd : CdOk T (Cz T P w mg base N_bound_of s_bound_of qual f cdv A outer s H E) d) : SSs T (Cz T P w mg base N_bound_of s_bound_of qual f cdv A outer s H E) (defBody s_bound_of) (e_bound_of p) :=
  (ss_cons (ss_as (se_call 46 B rfl M.g_explored M.k_explored (sa_c (se_v 0) sa_n)) (sg_tl B.K B.calm (sgs_c (sg_n 1 B.nd) (sgs_c (sg_n 2 B.nd) sgs_n)))) (ss_cons (ss_set 3 B.nd (se_call 50 B rfl M.g_ring_of M.k_ring_of (sa_c (se_v 0) (sa_c (se_v 1) sa_n)))) (ss_cons (ss_if (st_cmp (os_isnot) (se_v 3) se_non) (ss_one (ss_ret (se_make 13 B rfl M.g_NoBound M.k_NoBound (sa_c (se_call 48 B rfl M.g_path_of M.k_path_of (sa_c (se_call 47 B rfl M.g_road M.k_road (sa_c (se_v 2) (sa_c (se_ix (is_ixK B (is_ix B.K)) (se_v 3) se_int) sa_n))) sa_n)) (sa_c (se_call 48 B rfl M.g_path_of M.k_path_of (sa_c (se_ix (is_ixK B (is_ix B.K)) (se_v 3) se_int) sa_n)) sa_n))))) ss_nil) (ss_cons (ss_as (se_call 51 B rfl M.g_raised M.k_raised (sa_c (se_v 0) (sa_c (se_v 1) sa_n))) (sg_tl B.K B.calm (sgs_c (sg_n 4 B.nd) (sgs_c (sg_n 5 B.nd) sgs_n)))) (ss_cons (ss_set 6 B.nd (se_call 25 B rfl M.g_start_of M.k_start_of (sa_c (se_v 0) sa_n))) (ss_cons (ss_lock (evV 4) (ss_for own_passes B.calm (si_any B (se_v 4)) (sg_n 7 B.nd) (ss_one (ss_if (st_cmp (os_gt) (se_bin (os_add B.K) (se_ix (is_ixK B (is_ix B.K)) (se_v 4) (se_v 7)) (se_call 27 B rfl M.g_waste_of M.k_waste_of (sa_c (se_v 7) sa_n))) (se_bin (os_add B.K) (se_ix (is_ixK B (is_ix B.K)) (se_v 4) (se_v 6)) (se_call 27 B rfl M.g_waste_of M.k_waste_of (sa_c (se_v 6) sa_n)))) (ss_one (ss_set 6 B.nd (se_v 7))) ss_nil)))) (ss_one (ss_ret (se_make 12 B rfl M.g_AtMost M.k_AtMost (sa_c (se_bin (os_add B.K) (se_ix (is_ixK B (is_ix B.K)) (se_v 4) (se_v 6)) (se_call 27 B rfl M.g_waste_of M.k_waste_of (sa_c (se_v 6) sa_n))) (sa_c (se_call 48 B rfl M.g_path_of M.k_path_of (sa_c (se_call 52 B rfl M.g_top_road M.k_top_road (sa_c (se_v 2) (sa_c (se_v 5) (sa_c (se_v 6) sa_n)))) sa_n)) (sa_c (se_v 4) sa_n))))))))))))

abbrev N_check_any : List Str := [("limit" : Str)]
def e_check_any (p : Pg) : EvS := (esIf (etV (evB (ivIs true) (evV 0) (evC .non))) (esX (evF (p.cl 45) (eaC (evV 0) eaN))) esNx)
theorem b_check_any (M : Mg T mg) (Mp : ∀ j, p.pat j = patOf j) (B : Bd T (Cz T P w mg base N_check_any s_check_any qual f cdv A outer s H E) p d) (Cd : CdOk T (Cz T P w mg base N_check_any s_check_any qual f cdv A outer s H E) d) : SSs T (Cz T P w mg base N_check_any s_check_any qual f cdv A outer s H E) (defBody s_check_any) (e_check_any p) :=
  (ss_one (ss_if (st_cmp (os_isnot) (se_v 0) se_non) (ss_one (ss_expr (se_call 45 B rfl M.g_check_limit M.k_check_limit (sa_c (se_v 0) sa_n)))) ss_nil))

abbrev N_is_spot : List Str := [("program" : Str), ("value" : Str)]
def e_is_spot (p : Pg) : EvS := (esRt (evAnd (evF (p.cl 3) (eaC (evV 1) eaN)) (evAnd (evCh2 ivLe ivLt (evC (.int 0)) (evV 1) (evF (ivLenK ivLen) (eaC (evU (getA p 6) (evV 0)) eaN))) (evB (ivInK p false (ivInD false)) (evB (ivIxK p ivIx) (evB (ivIxK p ivIx) (evU (getA p 6) (evV 0)) (evV 1)) (evC (.int 0))) (evC c_TIGHT)))))
theorem b_is_spot (M : Mg T mg) (Mp : ∀ j, p.pat j = patOf j) (B : Bd T (Cz T P w mg base N_is_spot s_is_spot qual f cdv A outer s H E) p d) (Cd : CdOk T (Cz T P w mg base N_is_spot s_is_spot qual f cdv A outer s H E) d) : SSs T (Cz T P w mg base N_is_spot s_is_spot qual f cdv A outer s H E) (defBody s_is_spot) (e_is_spot p) :=
  (ss_one (ss_ret (se_and (se_call 3 B rfl M.g_is_integer M.k_is_integer (sa_c (se_v 1) sa_n)) (se_and (se_ch2 (os_le) (os_lt) se_int (se_v 1) (se_fB (cs_lenK B (cs_len B.K)) rfl M.n_len bt_len (sa_c (se_att 6 B (se_v 0) M.nm_steps) sa_n))) (se_one (se_cmp (os_inK (neg := false) B (os_inD B.K B.u65)) (se_ix (is_ixK B (is_ix B.K)) (se_ix (is_ixK B (is_ix B.K)) (se_att 6 B (se_v 0) M.nm_steps) (se_v 1)) se_int) (se_glE rfl M.c_TIGHT)))))))

abbrev N_check_offers : List Str := [("program" : Str), ("offers" : Str), ("spot" : Str), ("price" : Str)]
def e_check_offers (p : Pg) : EvS := (esSeq (esX (evF (p.cl 14) (eaC (evV 0) eaN))) (esSeq (esIf (etOr (etNot (etV (evF (ivIsi p) (eaC (evV 1) (eaC (evC (.ty 6)) eaN))))) (etNot (etV (evCh2 ivLe ivLe (evC (.int 1)) (evF (ivLenK ivLen) (eaC (evV 1) eaN)) (evC c_MAX_OFFERS))))) esBad esNx) (esLock (evV 1) (esFor (eiDct (fun kv => .tup [kv.1, kv.2]) (evV 1)) (egT 2 (egsC (egN 2) (egsC (egN 3) egsN))) (esIf (etOr (etNot (etV (evF (p.cl 55) (eaC (evV 0) (eaC (evV 2) eaN))))) (etOr (etNot (etV (evF (p.cl 3) (eaC (evV 3) eaN)))) (etNot (etV (evCh2 ivLe ivLe (evC (.int 1)) (evV 3) (evC c_MAX_PRICE)))))) esBad esNx)))))
theorem b_check_offers (M : Mg T mg) (Mp : ∀ j, p.pat j = patOf j) (B : Bd T (Cz T P w mg base N_check_offers s_check_offers qual f cdv A outer s H E) p d) (Cd : CdOk T (Cz T P w mg base N_check_offers s_check_offers qual f cdv A outer s H E) d) : SSs T (Cz T P w mg base N_check_offers s_check_offers qual f cdv A outer s H E) (defBody s_check_offers) (e_check_offers p) :=
  (ss_cons (ss_expr (se_call 14 B rfl M.g_check_program M.k_check_program (sa_c (se_v 0) sa_n))) (ss_cons (ss_if (SW.st (sw_or (st_not (st_v (se_fB (cs_isi B) rfl M.n_isinstance bt_isinstance (sa_c (se_v 1) (sa_c (se_ty 6 rfl M.n_dict bt_dict) sa_n))))) (sw_or1 (st_not (st_ch2 (os_le) (os_le) se_int (se_fB (cs_lenK B (cs_len B.K)) rfl M.n_len bt_len (sa_c (se_v 1) sa_n)) (se_glE rfl M.c_MAX_OFFERS)))))) (ss_one (ss_bad _)) ss_nil) (ss_one (ss_lock (evV 1) (ss_for own_passes B.calm (si_items B (se_v 1)) (sg_t B.K B.calm (sgs_c (sg_n 2 B.nd) (sgs_c (sg_n 3 B.nd) sgs_n))) (ss_one (ss_if (SW.st (sw_or (st_not (st_v (se_call 55 B rfl M.g_is_spot M.k_is_spot (sa_c (se_v 0) (sa_c (se_v 2) sa_n))))) (sw_or (st_not (st_v (se_call 3 B rfl M.g_is_integer M.k_is_integer (sa_c (se_v 3) sa_n)))) (sw_or1 (st_not (st_ch2 (os_le) (os_le) se_int (se_v 3) (se_glE rfl M.c_MAX_PRICE))))))) (ss_one (ss_bad _)) ss_nil)))))))

abbrev N_check_all : List Str := [("program" : Str), ("offers" : Str), ("limit" : Str)]
def e_check_all (p : Pg) : EvS := (esSeq (esX (evF (p.cl 56) (eaC (evV 0) (eaC (evV 1) eaN)))) (esX (evF (p.cl 54) (eaC (evV 2) eaN))))
theorem b_check_all (M : Mg T mg) (Mp : ∀ j, p.pat j = patOf j) (B : Bd T (Cz T P w mg base N_check_all s_check_all qual f cdv A outer s H E) p d) (Cd : CdOk T (Cz T P w mg base N_check_all s_check_all qual f cdv A outer s H E) d) : SSs T (Cz T P w mg base N_check_all s_check_all qual f cdv A outer s H E) (defBody s_check_all) (e_check_all p) :=
  (ss_cons (ss_expr (se_call 56 B rfl M.g_check_offers M.k_check_offers (sa_c (se_v 0) (sa_c (se_v 1) sa_n)))) (ss_one (ss_expr (se_call 54 B rfl M.g_check_any M.k_check_any (sa_c (se_v 2) sa_n)))))

abbrev N_price_of : List Str := [("offers" : Str), ("lot" : Str), ("spot" : Str)]
def e_price_of (p : Pg) : EvS := (esRt (evF ivSum (eaC (evLock (evV 1) (evLC (eiAny (evV 1)) (egN 2) etYes (evB (ivIxK p ivIx) (evV 0) (evV 2)) [2])) eaN)))
theorem b_price_of (M : Mg T mg) (Mp : ∀ j, p.pat j = patOf j) (B : Bd T (Cz T P w mg base N_price_of s_price_of qual f cdv A outer s H E) p d) (Cd : CdOk T (Cz T P w mg base N_price_of s_price_of qual f cdv A outer s H E) d) : SSs T (Cz T P w mg base N_price_of s_price_of qual f cdv A outer s H E) (defBody s_price_of) (e_price_of p) :=
  (ss_one (ss_ret (se_fB (cs_sum B.K B.calm) rfl M.n_sum bt_sum (sa_c (se_lock (evV 1) (se_lc B.calm B.nd (si_any B (se_v 1)) (own := [("spot", 2)]) (blkOk_by (by kernel_rfl)) (fun _ _ _ _ _ => (sgo_n 2 B.blk.nd)) (fun _ _ _ _ _ => spt_nil) (fun _ _ _ _ _ => (se_ix (is_ixK B.blk (is_ix B.blk.K)) (se_v 0) (se_v 2))))) sa_n))))

abbrev N_lots_of : List Str := [("offers" : Str), ("found" : Str), ("spot" : Str), ("lot" : Str)]
def e_lots_of (p : Pg) : EvS := (esSeq (esSet 1 (evLst (eaC (evTup eaN) eaN))) (esSeq (esFor (eiAny (evF ivSorted (eaC (evV 0) eaN))) (egN 2) (esSet 1 (evLst (eaS (evV 1) (eaS (evLock (evV 1) (evLC (eiAny (evV 1)) (egN 3) etYes (evTup (eaS (evV 3) (eaC (evV 2) eaN))) [3])) eaN))))) (esRt (evSortK (evV 1) (evTup (eaC (evF (p.cl 58) (eaC (evV 1) (eaC (evV 0) eaN))) (eaC (evF (ivLenK ivLen) (eaC (evV 0) eaN)) (eaC (evV 0) eaN)))) [0] 0))))
theorem b_lots_of (M : Mg T mg) (Mp : ∀ j, p.pat j = patOf j) (B : Bd T (Cz T P w mg base N_lots_of s_lots_of qual f cdv A outer s H E) p d) (Cd : CdOk T (Cz T P w mg base N_lots_of s_lots_of qual f cdv A outer s H E) d) (La : LamOk T (Cz T P w mg base N_lots_of s_lots_of qual f cdv A outer s H E)) : SSs T (Cz T P w mg base N_lots_of s_lots_of qual f cdv A outer s H E) (defBody s_lots_of) (e_lots_of p) :=
  (ss_cons (ss_set 1 B.nd (se_lst (sa_c (se_tup sa_n) sa_n))) (ss_cons (ss_for own_passes B.calm (si_any B (se_fB (cs_sorted B) rfl M.n_sorted bt_sorted (sa_c (se_v 0) sa_n))) (sg_n 2 B.nd) (ss_one (ss_set 1 B.nd (se_lst (sa_s B.K (se_v 1) (sa_s B.K (se_lock (evV 1) (se_lc B.calm B.nd (si_any B (se_v 1)) (own := [("lot", 3)]) (blkOk_by (by kernel_rfl)) (fun _ _ _ _ _ => (sgo_n 3 B.blk.nd)) (fun _ _ _ _ _ => spt_nil) (fun _ _ _ _ _ => (se_tup (sa_s B.blk.K (se_v 3) (sa_c (se_v 2) sa_n)))))) sa_n)))))) (ss_one (ss_ret (se_sortKey (N := [("lot" : Str), ("offers" : Str)]) (fr := [("offers" : Str)]) (par := "lot") (js := [0]) own_ctx B La Cd.rm rfl M.n_sorted (se_v 1) (nscope_by (by kernel_rfl)) (fun _ _ _ _ _ B2 => (se_tup (sa_c (se_call 58 B2 rfl M.g_price_of M.k_price_of (sa_c (se_v 1) (sa_c (se_v 0) sa_n))) (sa_c (se_fB (cs_lenK B2 (cs_len B2.K)) rfl M.n_len bt_len (sa_c (se_v 0) sa_n)) (sa_c (se_v 0) sa_n))))) (ndef_free (fr := [("offers" : Str)]) (by kernel_rfl)) (ndef_fr (sc := defScope s_lots_of) (by kernel_rfl)) rfl)))))

abbrev N_with_lot : List Str := [("program" : Str), ("lot" : Str), ("rows" : Str), ("at" : Str), ("step" : Str)]
def e_with_lot (p : Pg) : EvS := (esSeq (esSet 2 (evLC (eiEnum (evU (getA p 6) (evV 0))) (egT 2 (egsC (egN 3) (egsC (egN 4) egsN))) etYes (evIf (etV (evB (ivInK p false (ivInD false)) (evV 3) (evV 1))) (evTup (eaC (evB (ivIxK p ivIx) (evC c_TIGHT) (evB (ivIxK p ivIx) (evV 4) (evC (.int 0)))) (eaS (evSl (evV 4) (eoS (evC (.int 1))) eoN) eaN))) (evV 4)) [3, 4])) (esRt (evF (mkI p 9) (eaC (evU (getA p 7) (evV 0)) (eaC (evU (getA p 5) (evV 0)) (eaC (evF ivTuple (eaC (evV 2) eaN)) eaN))))))
theorem b_with_lot (M : Mg T mg) (Mp : ∀ j, p.pat j = patOf j) (B : Bd T (Cz T P w mg base N_with_lot s_with_lot qual f cdv A outer s H E) p d) (Cd : CdOk T (Cz T P w mg base N_with_lot s_with_lot qual f cdv A outer s H E) d) : SSs T (Cz T P w mg base N_with_lot s_with_lot qual f cdv A outer s H E) (defBody s_with_lot) (e_with_lot p) :=
  (ss_cons (ss_setLc 2 B.calm B.nd (si_enum B rfl M.n_enumerate (se_att 6 B (se_v 0) M.nm_steps)) (own := [("at", 3), ("step", 4)]) (blkOk_by (by kernel_rfl)) (fun _ _ _ _ _ => (sgo_t B.blk.K B.blk.calm (sgos_c (sgo_n 3 B.blk.nd) (sgos_c (sgo_n 4 B.blk.nd) sgos_n)))) (fun _ _ _ _ _ => spt_nil) (fun _ _ _ _ _ => (se_if (st_cmp (os_inK (neg := false) B.blk (os_inD B.blk.K B.blk.u65)) (se_v 3) (se_v 1)) (se_tup (sa_c (se_ix (is_ixK B.blk (is_ix B.blk.K)) (se_glE rfl M.c_TIGHT) (se_ix (is_ixK B.blk (is_ix B.blk.K)) (se_v 4) se_int)) (sa_s B.blk.K (se_sl B.blk.K (se_v 4) (so_s se_int) so_n) sa_n))) (se_v 4))) rfl) (ss_one (ss_ret (se_make 9 B rfl M.g_Program M.k_Program (sa_c (se_att 7 B (se_v 0) M.nm_width) (sa_c (se_att 5 B (se_v 0) M.nm_many) (sa_c (se_fT (cs_tuple B.K) rfl M.n_tuple bt_tuple (sa_c (se_v 2) sa_n)) sa_n)))))))

abbrev N_answer_to : List Str := [("program" : Str), ("lot" : Str), ("limit" : Str), ("found" : Str)]
def e_answer_to (p : Pg) : EvS := (esSeq (esSet 3 (evF (p.cl 53) (eaC (evF (p.cl 60) (eaC (evV 0) (eaC (evV 1) eaN))) eaN))) (esSeq (esIf (etOr (etV (evF (ivIsi p) (eaC (evV 3) (eaC (evC (.cls 13)) eaN)))) (etOr (etV (evB (ivIs false) (evV 2) (evC .non))) (etV (evB ivLe (evU (getA p 9) (evV 3)) (evV 2))))) (esRt (evV 3)) esNx) (esRt (evF (mkI p 14) (eaC (evU (getA p 8) (evV 3)) eaN)))))
theorem b_answer_to (M : Mg T mg) (Mp : ∀ j, p.pat j = patOf j) (B : Bd T (Cz T P w mg base N_answer_to s_answer_to qual f cdv A outer s H E) p d) (Cd : CdOk T (Cz T P w mg base N_answer_to s_answer_to qual f cdv A outer s H E) d) : SSs T (Cz T P w mg base N_answer_to s_answer_to qual f cdv A outer s H E) (defBody s_answer_to) (e_answer_to p) :=
  (ss_cons (ss_set 3 B.nd (se_call 53 B rfl M.g_bound_of M.k_bound_of (sa_c (se_call 60 B rfl M.g_with_lot M.k_with_lot (sa_c (se_v 0) (sa_c (se_v 1) sa_n))) sa_n))) (ss_cons (ss_if (SW.st (sw_or (st_v (se_fB (cs_isi B) rfl M.n_isinstance bt_isinstance (sa_c (se_v 3) (sa_c (se_cl 13 rfl M.g_NoBound) sa_n)))) (sw_or (st_cmp (os_is) (se_v 2) se_non) (sw_or1 (st_cmp (os_le) (se_att 9 B (se_v 3) M.nm_number) (se_v 2)))))) (ss_one (ss_ret (se_v 3))) ss_nil) (ss_one (ss_ret (se_make 14 B rfl M.g_Over M.k_Over (sa_c (se_att 8 B (se_v 3) M.nm_path) sa_n))))))

abbrev N_is_against_lot : List Str := [("program" : Str), ("lot" : Str), ("limit" : Str), ("found" : Str), ("late" : Str)]
def e_is_against_lot (p : Pg) : EvS := (esSeq (esSet 4 (evF (p.cl 60) (eaC (evV 0) (eaC (evV 1) eaN)))) (esSeq (esIf (etV (evF (ivIsi p) (eaC (evV 3) (eaC (evC (.cls 13)) eaN)))) (esRt (evMk p 12 [(38, 0), (41, 1)] 0 (evV 3) (eaC (evV 4) eaN) eaN)) esNx) (esRt (evAnd (evF (ivIsi p) (eaC (evV 3) (eaC (evC (.cls 14)) eaN))) (evAnd (evB (ivIs true) (evV 2) (evC .non)) (evMk p 12 [(44, 2), (66, 3), (69, 4)] 0 (evV 3) (eaC (evV 4) (eaC (evV 2) eaN)) eaN))))))
theorem b_is_against_lot (M : Mg T mg) (Mp : ∀ j, p.pat j = patOf j) (B : Bd T (Cz T P w mg base N_is_against_lot s_is_against_lot qual f cdv A outer s H E) p d) (Cd : CdOk T (Cz T P w mg base N_is_against_lot s_is_against_lot qual f cdv A outer s H E) d) : SSs T (Cz T P w mg base N_is_against_lot s_is_against_lot qual f cdv A outer s H E) (defBody s_is_against_lot) (e_is_against_lot p) :=
  (ss_cons (ss_set 4 B.nd (se_call 60 B rfl M.g_with_lot M.k_with_lot (sa_c (se_v 0) (sa_c (se_v 1) sa_n)))) (ss_cons (ss_if (st_v (se_fB (cs_isi B) rfl M.n_isinstance bt_isinstance (sa_c (se_v 3) (sa_c (se_cl 13 rfl M.g_NoBound) sa_n)))) (ss_one (ss_ret (se_meK (ks := []) 12 [(38, 0), (41, 1)] (hjs_of Mp (by decide +kernel)) B (se_v 3) (sa_c (se_v 4) sa_n) sk_n M.nm_shows))) ss_nil) (ss_one (ss_ret (se_and (se_fB (cs_isi B) rfl M.n_isinstance bt_isinstance (sa_c (se_v 3) (sa_c (se_cl 14 rfl M.g_Over) sa_n))) (se_and (se_cmp (os_isnot) (se_v 2) se_non) (se_one (se_meK (ks := []) 12 [(44, 2), (66, 3), (69, 4)] (hjs_of Mp (by decide +kernel)) B (se_v 3) (sa_c (se_v 4) (sa_c (se_v 2) sa_n)) sk_n M.nm_shows))))))))

abbrev N_are_against_lots : List Str := [("program" : Str), ("due" : Str), ("limit" : Str), ("others" : Str), ("lot" : Str)]
def e_are_against_lots (p : Pg) : EvS := (esSeq (esIf (etOr (etV (evB (ivEqD true) (evF (ivLenK ivLen) (eaC (evV 3) eaN)) (evF (ivLenK ivLen) (eaC (evV 1) eaN)))) (etNot (etV (evF ivAll (eaC (evLock (evV 1) (evLC (eiAny (evV 1)) (egN 4) etYes (evB (ivInK p false (ivInD false)) (evV 4) (evV 3)) [4])) eaN))))) (esRt (evC (.bl false))) esNx) (esRt (evF ivAll (eaC (evLock (evV 1) (evLC (eiAny (evV 1)) (egN 4) etYes (evF (p.cl 62) (eaC (evV 0) (eaC (evV 4) (eaC (evV 2) (eaC (evB (ivIxK p ivIx) (evV 3) (evV 4)) eaN))))) [4])) eaN))))
theorem b_are_against_lots (M : Mg T mg) (Mp : ∀ j, p.pat j = patOf j) (B : Bd T (Cz T P w mg base N_are_against_lots s_are_against_lots qual f cdv A outer s H E) p d) (Cd : CdOk T (Cz T P w mg base N_are_against_lots s_are_against_lots qual f cdv A outer s H E) d) : SSs T (Cz T P w mg base N_are_against_lots s_are_against_lots qual f cdv A outer s H E) (defBody s_are_against_lots) (e_are_against_lots p) :=
  (ss_cons (ss_if (SW.st (sw_or (st_cmp (os_neD B.K B.u64) (se_fB (cs_lenK B (cs_len B.K)) rfl M.n_len bt_len (sa_c (se_v 3) sa_n)) (se_fB (cs_lenK B (cs_len B.K)) rfl M.n_len bt_len (sa_c (se_v 1) sa_n))) (sw_or1 (st_not (st_v (se_fB (cs_all B.K B.calm) rfl M.n_all bt_all (sa_c (se_lock (evV 1) (se_lc B.calm B.nd (si_any B (se_v 1)) (own := [("lot", 4)]) (blkOk_by (by kernel_rfl)) (fun _ _ _ _ _ => (sgo_n 4 B.blk.nd)) (fun _ _ _ _ _ => spt_nil) (fun _ _ _ _ _ => (se_cmp (os_inK (neg := false) B.blk (os_inD B.blk.K B.blk.u65)) (se_v 4) (se_v 3))))) sa_n))))))) (ss_one (ss_ret se_bl)) ss_nil) (ss_one (ss_ret (se_fB (cs_all B.K B.calm) rfl M.n_all bt_all (sa_c (se_lock (evV 1) (se_lc B.calm B.nd (si_any B (se_v 1)) (own := [("lot", 4)]) (blkOk_by (by kernel_rfl)) (fun _ _ _ _ _ => (sgo_n 4 B.blk.nd)) (fun _ _ _ _ _ => spt_nil) (fun _ _ _ _ _ => (se_call 62 B.blk rfl M.g_is_against_lot M.k_is_against_lot (sa_c (se_v 0) (sa_c (se_v 4) (sa_c (se_v 2) (sa_c (se_ix (is_ixK B.blk (is_ix B.blk.K)) (se_v 3) (se_v 4)) sa_n)))))))) sa_n)))))

abbrev N_Tightened_init : List Str := [("self" : Str), ("lot" : Str), ("found" : Str), ("others" : Str)]
def e_Tightened_init (p : Pg) : EvS := (esSeq (esFld p 13 (evV 0) (evV 1)) (esSeq (esFld p 14 (evV 0) (evV 2)) (esFld p 15 (evV 0) (evF (ivDictC false ivBad) (eaC (evV 3) eaN)))))
theorem b_Tightened_init (M : Mg T mg) (Mp : ∀ j, p.pat j = patOf j) (B : Bd T (Cz T P w mg base N_Tightened_init s_Tightened_init qual f cdv A outer s H E) p d) (Cd : CdOk T (Cz T P w mg base N_Tightened_init s_Tightened_init qual f cdv A outer s H E) d) : SSs T (Cz T P w mg base N_Tightened_init s_Tightened_init qual f cdv A outer s H E) (defBody s_Tightened_init) (e_Tightened_init p) :=
  (ss_cons (ss_fld 13 B (se_v 0) (se_v 1) M.nm_lot) (ss_cons (ss_fld 14 B (se_v 0) (se_v 2) M.nm_bound) (ss_one (ss_fld 15 B (se_v 0) (se_fT (cs_dictC B (cs_bad _)) rfl M.n_dict bt_dict (sa_c (se_v 3) sa_n)) M.nm_others))))

abbrev N_Tightened_eq : List Str := [("self" : Str), ("other" : Str)]
def e_Tightened_eq (p : Pg) : EvS := (esSeq (esIf (etOr (etNot (etV (evF (ivIsi p) (eaC (evV 1) (eaC (evC (.cls 15)) eaN))))) (etV (evB (ivEqD true) (evU (getA p 13) (evV 0)) (evU (getA p 13) (evV 1))))) (esRt (evC (.bl false))) esNx) (esRt (evAnd (evB (ivEqD false) (evU (getA p 14) (evV 0)) (evU (getA p 14) (evV 1))) (evB (ivEqD false) (evU (getA p 15) (evV 0)) (evU (getA p 15) (evV 1))))))
theorem b_Tightened_eq (M : Mg T mg) (Mp : ∀ j, p.pat j = patOf j) (B : Bd T (Cz T P w mg base N_Tightened_eq s_Tightened_eq qual f cdv A outer s H E) p d) (Cd : CdOk T (Cz T P w mg base N_Tightened_eq s_Tightened_eq qual f cdv A outer s H E) d) : SSs T (Cz T P w mg base N_Tightened_eq s_Tightened_eq qual f cdv A outer s H E) (defBody s_Tightened_eq) (e_Tightened_eq p) :=
  (ss_cons (ss_if (SW.st (sw_or (st_not (st_v (se_fB (cs_isi B) rfl M.n_isinstance bt_isinstance (sa_c (se_v 1) (sa_c (se_cl 15 rfl M.g_Tightened) sa_n))))) (sw_or1 (st_cmp (os_neD B.K B.u64) (se_att 13 B (se_v 0) M.nm_lot) (se_att 13 B (se_v 1) M.nm_lot))))) (ss_one (ss_ret se_bl)) ss_nil) (ss_one (ss_ret (se_and (se_cmp (os_eqD B.K B.u64) (se_att 14 B (se_v 0) M.nm_bound) (se_att 14 B (se_v 1) M.nm_bound)) (se_one (se_cmp (os_eqD B.K B.u64) (se_att 15 B (se_v 0) M.nm_others) (se_att 15 B (se_v 1) M.nm_others)))))))

abbrev N_Tightened_shows : List Str := [("self" : Str), ("program" : Str), ("offers" : Str), ("limit" : Str), ("every" : Str), ("most" : Str), ("due" : Str), ("lot" : Str)]
def e_Tightened_shows (p : Pg) : EvS := (esSeq (esX (evF (p.cl 57) (eaC (evV 1) (eaC (evV 2) (eaC (evV 3) eaN))))) (esSeq (esSet 4 (evF (p.cl 59) (eaC (evV 2) eaN))) (esSeq (esIf (etOr (etV (evB (ivInK p true (ivInD true)) (evU (getA p 13) (evV 0)) (evV 4))) (etNot (etV (evMk p 12 [(38, 0), (41, 1)] 0 (evU (getA p 14) (evV 0)) (eaC (evF (p.cl 60) (eaC (evV 1) (eaC (evU (getA p 13) (evV 0)) eaN))) eaN) eaN)))) (esRt (evC (.bl false))) esNx) (esSeq (esIf (etAnd (etV (evB (ivIs true) (evV 3) (evC .non))) (etV (evB ivGt (evU (getA p 9) (evU (getA p 14) (evV 0))) (evV 3)))) (esRt (evC (.bl false))) esNx) (esSeq (esSet 5 (evF (p.cl 58) (eaC (evV 2) (eaC (evU (getA p 13) (evV 0)) eaN)))) (esSeq (esLock (evV 4) (esSet 6 (evLC (eiAny (evV 4)) (egN 7) (etV (evB ivLt (evF (p.cl 58) (eaC (evV 2) (eaC (evV 7) eaN))) (evV 5))) (evV 7) [7]))) (esRt (evF (p.cl 63) (eaC (evV 1) (eaC (evV 6) (eaC (evV 3) (eaC (evU (getA p 15) (evV 0)) eaN))))))))))))
theorem b_Tightened_shows (M : Mg T mg) (Mp : ∀ j, p.pat j = patOf j) (B : Bd T (Cz T P w mg base N_Tightened_shows s_Tightened_shows qual f cdv A outer s H E) p d) (Cd : CdOk T (Cz T P w mg base N_Tightened_shows s_Tightened_shows qual f cdv A outer s H E) d) : SSs T (Cz T P w mg base N_Tightened_shows s_Tightened_shows qual f cdv A outer s H E) (defBody s_Tightened_shows) (e_Tightened_shows p) :=
  (ss_cons (ss_expr (se_call 57 B rfl M.g_check_all M.k_check_all (sa_c (se_v 1) (sa_c (se_v 2) (sa_c (se_v 3) sa_n))))) (ss_cons (ss_set 4 B.nd (se_call 59 B rfl M.g_lots_of M.k_lots_of (sa_c (se_v 2) sa_n))) (ss_cons (ss_if (SW.st (sw_or (st_cmp (os_inK (neg := true) B (os_ninD B.K B.u65)) (se_att 13 B (se_v 0) M.nm_lot) (se_v 4)) (sw_or1 (st_not (st_v (se_meK (ks := []) 12 [(38, 0), (41, 1)] (hjs_of Mp (by decide +kernel)) B (se_att 14 B (se_v 0) M.nm_bound) (sa_c (se_call 60 B rfl M.g_with_lot M.k_with_lot (sa_c (se_v 1) (sa_c (se_att 13 B (se_v 0) M.nm_lot) sa_n))) sa_n) sk_n M.nm_shows)))))) (ss_one (ss_ret se_bl)) ss_nil) (ss_cons (ss_if (SW.st (sw_and (st_cmp (os_isnot) (se_v 3) se_non) (sw_and1 (st_cmp (os_gt) (se_att 9 B (se_att 14 B (se_v 0) M.nm_bound) M.nm_number) (se_v 3))))) (ss_one (ss_ret se_bl)) ss_nil) (ss_cons (ss_set 5 B.nd (se_call 58 B rfl M.g_price_of M.k_price_of (sa_c (se_v 2) (sa_c (se_att 13 B (se_v 0) M.nm_lot) sa_n)))) (ss_cons (ss_lock (evV 4) (ss_setLc 6 B.calm B.nd (si_any B (se_v 4)) (own := [("lot", 7)]) (blkOk_by (by kernel_rfl)) (fun _ _ _ _ _ => (sgo_n 7 B.blk.nd)) (fun _ _ _ _ _ => (spt_one (st_cmp (os_lt) (se_call 58 B.blk rfl M.g_price_of M.k_price_of (sa_c (se_v 2) (sa_c (se_v 7) sa_n))) (se_v 5)) takes0)) (fun _ _ _ _ _ => (se_v 7)) rfl)) (ss_one (ss_ret (se_call 63 B rfl M.g_are_against_lots M.k_are_against_lots (sa_c (se_v 1) (sa_c (se_v 6) (sa_c (se_v 3) (sa_c (se_att 15 B (se_v 0) M.nm_others) sa_n)))))))))))))

abbrev N_NotTightened_init : List Str := [("self" : Str), ("others" : Str)]
def e_NotTightened_init (p : Pg) : EvS := (esFld p 15 (evV 0) (evF (ivDictC false ivBad) (eaC (evV 1) eaN)))
theorem b_NotTightened_init (M : Mg T mg) (Mp : ∀ j, p.pat j = patOf j) (B : Bd T (Cz T P w mg base N_NotTightened_init s_NotTightened_init qual f cdv A outer s H E) p d) (Cd : CdOk T (Cz T P w mg base N_NotTightened_init s_NotTightened_init qual f cdv A outer s H E) d) : SSs T (Cz T P w mg base N_NotTightened_init s_NotTightened_init qual f cdv A outer s H E) (defBody s_NotTightened_init) (e_NotTightened_init p) :=
  (ss_one (ss_fld 15 B (se_v 0) (se_fT (cs_dictC B (cs_bad _)) rfl M.n_dict bt_dict (sa_c (se_v 1) sa_n)) M.nm_others))

abbrev N_NotTightened_eq : List Str := [("self" : Str), ("other" : Str)]
def e_NotTightened_eq (p : Pg) : EvS := (esRt (evAnd (evF (ivIsi p) (eaC (evV 1) (eaC (evC (.cls 16)) eaN))) (evB (ivEqD false) (evU (getA p 15) (evV 0)) (evU (getA p 15) (evV 1)))))
theorem b_NotTightened_eq (M : Mg T mg) (Mp : ∀ j, p.pat j = patOf j) (B : Bd T (Cz T P w mg base N_NotTightened_eq s_NotTightened_eq qual f cdv A outer s H E) p d) (Cd : CdOk T (Cz T P w mg base N_NotTightened_eq s_NotTightened_eq qual f cdv A outer s H E) d) : SSs T (Cz T P w mg base N_NotTightened_eq s_NotTightened_eq qual f cdv A outer s H E) (defBody s_NotTightened_eq) (e_NotTightened_eq p) :=
  (ss_one (ss_ret (se_and (se_fB (cs_isi B) rfl M.n_isinstance bt_isinstance (sa_c (se_v 1) (sa_c (se_cl 16 rfl M.g_NotTightened) sa_n))) (se_one (se_cmp (os_eqD B.K B.u64) (se_att 15 B (se_v 0) M.nm_others) (se_att 15 B (se_v 1) M.nm_others))))))

abbrev N_NotTightened_shows : List Str := [("self" : Str), ("program" : Str), ("offers" : Str), ("limit" : Str)]
def e_NotTightened_shows (p : Pg) : EvS := (esSeq (esX (evF (p.cl 57) (eaC (evV 1) (eaC (evV 2) (eaC (evV 3) eaN))))) (esRt (evF (p.cl 63) (eaC (evV 1) (eaC (evF (p.cl 59) (eaC (evV 2) eaN)) (eaC (evV 3) (eaC (evU (getA p 15) (evV 0)) eaN)))))))
theorem b_NotTightened_shows (M : Mg T mg) (Mp : ∀ j, p.pat j = patOf j) (B : Bd T (Cz T P w mg base N_NotTightened_shows s_NotTightened_shows qual f cdv A outer s H E) p d) (Cd : CdOk T (Cz T P w mg base N_NotTightened_shows s_NotTightened_shows qual f cdv A outer s H E) d) : SSs T (Cz T P w mg base N_NotTightened_shows s_NotTightened_shows qual f cdv A outer s H E) (defBody s_NotTightened_shows) (e_NotTightened_shows p) :=
  (ss_cons (ss_expr (se_call 57 B rfl M.g_check_all M.k_check_all (sa_c (se_v 1) (sa_c (se_v 2) (sa_c (se_v 3) sa_n))))) (ss_one (ss_ret (se_call 63 B rfl M.g_are_against_lots M.k_are_against_lots (sa_c (se_v 1) (sa_c (se_call 59 B rfl M.g_lots_of M.k_lots_of (sa_c (se_v 2) sa_n)) (sa_c (se_v 3) (sa_c (se_att 15 B (se_v 0) M.nm_others) sa_n))))))))

abbrev N_lots : List Str := [("program" : Str), ("offers" : Str)]
def e_lots (p : Pg) : EvS := (esSeq (esX (evF (p.cl 56) (eaC (evV 0) (eaC (evV 1) eaN)))) (esRt (evF (p.cl 59) (eaC (evV 1) eaN))))
theorem b_lots (M : Mg T mg) (Mp : ∀ j, p.pat j = patOf j) (B : Bd T (Cz T P w mg base N_lots s_lots qual f cdv A outer s H E) p d) (Cd : CdOk T (Cz T P w mg base N_lots s_lots qual f cdv A outer s H E) d) : SSs T (Cz T P w mg base N_lots s_lots qual f cdv A outer s H E) (defBody s_lots) (e_lots p) :=
  (ss_cons (ss_expr (se_call 56 B rfl M.g_check_offers M.k_check_offers (sa_c (se_v 0) (sa_c (se_v 1) sa_n)))) (ss_one (ss_ret (se_call 59 B rfl M.g_lots_of M.k_lots_of (sa_c (se_v 1) sa_n)))))

abbrev N_tightened : List Str := [("program" : Str), ("offers" : Str), ("lot" : Str), ("spot" : Str)]
def e_tightened (p : Pg) : EvS := (esSeq (esX (evF (p.cl 56) (eaC (evV 0) (eaC (evV 1) eaN)))) (esSeq (esIf (etOr (etNot (etV (evF (ivIsi p) (eaC (evV 2) (eaC (evC (.ty 5)) eaN))))) (etOr (etNot (etV (evF ivAll (eaC (evLock (evV 2) (evLC (eiAny (evV 2)) (egN 3) etYes (evF (p.cl 55) (eaC (evV 0) (eaC (evV 3) eaN))) [3])) eaN)))) (etV (evB (ivInK p true (ivInD true)) (evV 2) (evF (p.cl 59) (eaC (evV 1) eaN)))))) esBad esNx) (esRt (evF (p.cl 60) (eaC (evV 0) (eaC (evV 2) eaN))))))
theorem b_tightened (M : Mg T mg) (Mp : ∀ j, p.pat j = patOf j) (B : Bd T (Cz T P w mg base N_tightened s_tightened qual f cdv A outer s H E) p d) (Cd : CdOk T (Cz T P w mg base N_tightened s_tightened qual f cdv A outer s H E) d) : SSs T (Cz T P w mg base N_tightened s_tightened qual f cdv A outer s H E) (defBody s_tightened) (e_tightened p) :=
  (ss_cons (ss_expr (se_call 56 B rfl M.g_check_offers M.k_check_offers (sa_c (se_v 0) (sa_c (se_v 1) sa_n)))) (ss_cons (ss_if (SW.st (sw_or (st_not (st_v (se_fB (cs_isi B) rfl M.n_isinstance bt_isinstance (sa_c (se_v 2) (sa_c (se_ty 5 rfl M.n_tuple bt_tuple) sa_n))))) (sw_or (st_not (st_v (se_fB (cs_all B.K B.calm) rfl M.n_all bt_all (sa_c (se_lock (evV 2) (se_lc B.calm B.nd (si_any B (se_v 2)) (own := [("spot", 3)]) (blkOk_by (by kernel_rfl)) (fun _ _ _ _ _ => (sgo_n 3 B.blk.nd)) (fun _ _ _ _ _ => spt_nil) (fun _ _ _ _ _ => (se_call 55 B.blk rfl M.g_is_spot M.k_is_spot (sa_c (se_v 0) (sa_c (se_v 3) sa_n)))))) sa_n)))) (sw_or1 (st_cmp (os_inK (neg := true) B (os_ninD B.K B.u65)) (se_v 2) (se_call 59 B rfl M.g_lots_of M.k_lots_of (sa_c (se_v 1) sa_n))))))) (ss_one (ss_bad _)) ss_nil) (ss_one (ss_ret (se_call 60 B rfl M.g_with_lot M.k_with_lot (sa_c (se_v 0) (sa_c (se_v 2) sa_n)))))))

abbrev N_tighten : List Str := [("program" : Str), ("offers" : Str), ("limit" : Str), ("others" : Str), ("lot" : Str), ("found" : Str), ("most" : Str), ("one" : Str)]
def e_tighten (p : Pg) : EvS := (esSeq (esX (evF (p.cl 57) (eaC (evV 0) (eaC (evV 1) (eaC (evV 2) eaN))))) (esSeq (esSet 3 (evDN true)) (esSeq (esFor (eiAny (evF (p.cl 59) (eaC (evV 1) eaN))) (egN 4) (esSeq (esSet 5 (evF (p.cl 61) (eaC (evV 0) (eaC (evV 4) (eaC (evV 2) eaN))))) (esSeq (esIf (etV (evF (ivIsi p) (eaC (evV 5) (eaC (evC (.cls 12)) eaN)))) (esSeq (esSet 6 (evF (p.cl 58) (eaC (evV 1) (eaC (evV 4) eaN)))) (esRt (evF (mkI p 15) (eaC (evV 4) (eaC (evV 5) (eaC (evLock (evV 3) (evDC true (eiAny (evV 3)) (egN 7) (etV (evB ivLt (evF (p.cl 58) (eaC (evV 1) (eaC (evV 7) eaN))) (evV 6))) (evV 7) (evB (ivIxK p ivIx) (evV 3) (evV 7)) [7])) eaN)))))) esNx) (esSub ivSet (evV 3) (evV 4) (evV 5))))) (esRt (evF (mkI p 16) (eaC (evV 3) eaN))))))
theorem b_tighten (M : Mg T mg) (Mp : ∀ j, p.pat j = patOf j) (B : Bd T (Cz T P w mg base N_tighten s_tighten qual f cdv A outer s H E) p d) (Cd : CdOk T (Cz T P w mg base N_tighten s_tighten qual f cdv A outer s H E) d) : SSs T (Cz T P w mg base N_tighten s_tighten qual f cdv A outer s H E) (defBody s_tighten) (e_tighten p) :=
  (ss_cons (ss_expr (se_call 57 B rfl M.g_check_all M.k_check_all (sa_c (se_v 0) (sa_c (se_v 1) (sa_c (se_v 2) sa_n))))) (ss_cons (ss_set 3 B.nd (se_dn true B)) (ss_cons (ss_for own_passes B.calm (si_any B (se_call 59 B rfl M.g_lots_of M.k_lots_of (sa_c (se_v 1) sa_n))) (sg_n 4 B.nd) (ss_cons (ss_set 5 B.nd (se_call 61 B rfl M.g_answer_to M.k_answer_to (sa_c (se_v 0) (sa_c (se_v 4) (sa_c (se_v 2) sa_n))))) (ss_cons (ss_if (st_v (se_fB (cs_isi B) rfl M.n_isinstance bt_isinstance (sa_c (se_v 5) (sa_c (se_cl 12 rfl M.g_AtMost) sa_n)))) (ss_cons (ss_set 6 B.nd (se_call 58 B rfl M.g_price_of M.k_price_of (sa_c (se_v 1) (sa_c (se_v 4) sa_n)))) (ss_one (ss_ret (se_make 15 B rfl M.g_Tightened M.k_Tightened (sa_c (se_v 4) (sa_c (se_v 5) (sa_c (se_lock (evV 3) (se_dc true B (si_any B (se_v 3)) (own := [("one", 7)]) (blkOk_by (by kernel_rfl)) (fun _ _ _ _ _ => (sgo_n 7 B.blk.nd)) (fun _ _ _ _ _ => (spt_one (st_cmp (os_lt) (se_call 58 B.blk rfl M.g_price_of M.k_price_of (sa_c (se_v 1) (sa_c (se_v 7) sa_n))) (se_v 6)) takes0)) (fun _ _ _ _ _ => (se_v 7)) (fun _ _ _ _ _ => (se_ix (is_ixK B.blk (is_ix B.blk.K)) (se_v 3) (se_v 7))))) sa_n))))))) ss_nil) (ss_one (ss_sub (st_set B) (se_v 3) (se_v 4) (se_v 5)))))) (ss_one (ss_ret (se_make 16 B rfl M.g_NotTightened M.k_NotTightened (sa_c (se_v 3) sa_n)))))))

abbrev N_least_price : List Str := [("program" : Str), ("offers" : Str), ("limit" : Str), ("found" : Str)]
def e_least_price (p : Pg) : EvS := (esSeq (esSet 3 (evK (evKn 1 (p.ck 5)) (eaC (evV 0) (eaC (evV 1) eaN)) (eaC (evV 2) eaN))) (esRt (evIf (etV (evF (ivIsi p) (eaC (evV 3) (eaC (evC (.cls 15)) eaN)))) (evF (p.cl 58) (eaC (evV 1) (eaC (evU (getA p 13) (evV 3)) eaN))) (evC .non))))
theorem b_least_price (M : Mg T mg) (Mp : ∀ j, p.pat j = patOf j) (B : Bd T (Cz T P w mg base N_least_price s_least_price qual f cdv A outer s H E) p d) (Cd : CdOk T (Cz T P w mg base N_least_price s_least_price qual f cdv A outer s H E) d) : SSs T (Cz T P w mg base N_least_price s_least_price qual f cdv A outer s H E) (defBody s_least_price) (e_least_price p) :=
  (ss_cons (ss_set 3 B.nd (se_callK 72 5 (Mp 5) B rfl M.g_tighten M.k_tighten (sa_c (se_v 0) (sa_c (se_v 1) sa_n)) (sk_c (se_v 2) sk_n))) (ss_one (ss_ret (se_if (st_v (se_fB (cs_isi B) rfl M.n_isinstance bt_isinstance (sa_c (se_v 3) (sa_c (se_cl 15 rfl M.g_Tightened) sa_n)))) (se_call 58 B rfl M.g_price_of M.k_price_of (sa_c (se_v 1) (sa_c (se_att 13 B (se_v 3) M.nm_lot) sa_n))) se_non))))

abbrev N_Meets_init : List Str := [("self" : Str), ("path" : Str)]
def e_Meets_init (p : Pg) : EvS := (esFld p 8 (evV 0) (evV 1))
theorem b_Meets_init (M : Mg T mg) (Mp : ∀ j, p.pat j = patOf j) (B : Bd T (Cz T P w mg base N_Meets_init s_Meets_init qual f cdv A outer s H E) p d) (Cd : CdOk T (Cz T P w mg base N_Meets_init s_Meets_init qual f cdv A outer s H E) d) : SSs T (Cz T P w mg base N_Meets_init s_Meets_init qual f cdv A outer s H E) (defBody s_Meets_init) (e_Meets_init p) :=
  (ss_one (ss_fld 8 B (se_v 0) (se_v 1) M.nm_path))

abbrev N_Meets_eq : List Str := [("self" : Str), ("other" : Str)]
def e_Meets_eq (p : Pg) : EvS := (esRt (evAnd (evF (ivIsi p) (eaC (evV 1) (eaC (evC (.cls 17)) eaN))) (evB (ivEqD false) (evU (getA p 8) (evV 0)) (evU (getA p 8) (evV 1)))))
theorem b_Meets_eq (M : Mg T mg) (Mp : ∀ j, p.pat j = patOf j) (B : Bd T (Cz T P w mg base N_Meets_eq s_Meets_eq qual f cdv A outer s H E) p d) (Cd : CdOk T (Cz T P w mg base N_Meets_eq s_Meets_eq qual f cdv A outer s H E) d) : SSs T (Cz T P w mg base N_Meets_eq s_Meets_eq qual f cdv A outer s H E) (defBody s_Meets_eq) (e_Meets_eq p) :=
  (ss_one (ss_ret (se_and (se_fB (cs_isi B) rfl M.n_isinstance bt_isinstance (sa_c (se_v 1) (sa_c (se_cl 17 rfl M.g_Meets) sa_n))) (se_one (se_cmp (os_eqD B.K B.u64) (se_att 8 B (se_v 0) M.nm_path) (se_att 8 B (se_v 1) M.nm_path))))))

abbrev N_Meets_shows : List Str := [("self" : Str), ("program" : Str), ("place" : Str), ("one" : Str), ("other" : Str), ("thing" : Str), ("found" : Str)]
def e_Meets_shows (p : Pg) : EvS := (esSeq (esX (evF (p.cl 83) (eaC (evV 1) (eaC (evV 2) (eaC (evV 3) (eaC (evV 4) (eaC (evV 5) eaN))))))) (esSeq (esSet 6 (evF (p.cl 34) (eaC (evV 1) (eaC (evU (getA p 8) (evV 0)) eaN)))) (esRt (evAnd (evB (ivIs true) (evV 6) (evC .non)) (evF (p.cl 84) (eaC (evB (ivIxK p ivIx) (evB (ivIxK p ivIx) (evV 6) (evU ivNeg (evC (.int 1)))) (evC (.int 0))) (eaC (evV 2) (eaC (evTup (eaC (evV 3) (eaC (evV 4) eaN))) (eaC (evV 5) eaN)))))))))
theorem b_Meets_shows (M : Mg T mg) (Mp : ∀ j, p.pat j = patOf j) (B : Bd T (Cz T P w mg base N_Meets_shows s_Meets_shows qual f cdv A outer s H E) p d) (Cd : CdOk T (Cz T P w mg base N_Meets_shows s_Meets_shows qual f cdv A outer s H E) d) : SSs T (Cz T P w mg base N_Meets_shows s_Meets_shows qual f cdv A outer s H E) (defBody s_Meets_shows) (e_Meets_shows p) :=
  (ss_cons (ss_expr (se_call 83 B rfl M.g_check_meeting M.k_check_meeting (sa_c (se_v 1) (sa_c (se_v 2) (sa_c (se_v 3) (sa_c (se_v 4) (sa_c (se_v 5) sa_n))))))) (ss_cons (ss_set 6 B.nd (se_call 34 B rfl M.g_walked M.k_walked (sa_c (se_v 1) (sa_c (se_att 8 B (se_v 0) M.nm_path) sa_n)))) (ss_one (ss_ret (se_and (se_cmp (os_isnot) (se_v 6) se_non) (se_one (se_call 84 B rfl M.g_does_meet M.k_does_meet (sa_c (se_ix (is_ixK B (is_ix B.K)) (se_ix (is_ixK B (is_ix B.K)) (se_v 6) (se_un us_neg se_int)) se_int) (sa_c (se_v 2) (sa_c (se_tup (sa_c (se_v 3) (sa_c (se_v 4) sa_n))) (sa_c (se_v 5) sa_n)))))))))))

abbrev N_Apart_init : List Str := [("self" : Str), ("stands" : Str)]
def e_Apart_init (p : Pg) : EvS := (esFld p 16 (evV 0) (evF (ivListK ivList) (eaC (evV 1) eaN)))
theorem b_Apart_init (M : Mg T mg) (Mp : ∀ j, p.pat j = patOf j) (B : Bd T (Cz T P w mg base N_Apart_init s_Apart_init qual f cdv A outer s H E) p d) (Cd : CdOk T (Cz T P w mg base N_Apart_init s_Apart_init qual f cdv A outer s H E) d) : SSs T (Cz T P w mg base N_Apart_init s_Apart_init qual f cdv A outer s H E) (defBody s_Apart_init) (e_Apart_init p) :=
  (ss_one (ss_fld 16 B (se_v 0) (se_fT (cs_listK B (cs_list B.K)) rfl M.n_list bt_list (sa_c (se_v 1) sa_n)) M.nm_stands))

abbrev N_Apart_eq : List Str := [("self" : Str), ("other" : Str)]
def e_Apart_eq (p : Pg) : EvS := (esRt (evAnd (evF (ivIsi p) (eaC (evV 1) (eaC (evC (.cls 18)) eaN))) (evB (ivEqD false) (evU (getA p 16) (evV 0)) (evU (getA p 16) (evV 1)))))
theorem b_Apart_eq (M : Mg T mg) (Mp : ∀ j, p.pat j = patOf j) (B : Bd T (Cz T P w mg base N_Apart_eq s_Apart_eq qual f cdv A outer s H E) p d) (Cd : CdOk T (Cz T P w mg base N_Apart_eq s_Apart_eq qual f cdv A outer s H E) d) : SSs T (Cz T P w mg base N_Apart_eq s_Apart_eq qual f cdv A outer s H E) (defBody s_Apart_eq) (e_Apart_eq p) :=
  (ss_one (ss_ret (se_and (se_fB (cs_isi B) rfl M.n_isinstance bt_isinstance (sa_c (se_v 1) (sa_c (se_cl 18 rfl M.g_Apart) sa_n))) (se_one (se_cmp (os_eqD B.K B.u64) (se_att 16 B (se_v 0) M.nm_stands) (se_att 16 B (se_v 1) M.nm_stands))))))

abbrev N_Apart_shows : List Str := [("self" : Str), ("program" : Str), ("place" : Str), ("one" : Str), ("other" : Str), ("thing" : Str), ("known" : Str), ("stand" : Str), ("later" : Str), ("gone" : Str)]
def e_Apart_shows (p : Pg) : EvS := (esSeq (esX (evF (p.cl 83) (eaC (evV 1) (eaC (evV 2) (eaC (evV 3) (eaC (evV 4) (eaC (evV 5) eaN))))))) (esSeq (esSet 6 (evLock (evU (getA p 16) (evV 0)) (evDC true (eiAny (evU (getA p 16) (evV 0))) (egN 7) etYes (evV 7) (evC (.bl true)) [7]))) (esSeq (esIf (etV (evB (ivInK p true (ivInD true)) (evF (p.cl 25) (eaC (evV 1) eaN)) (evV 6))) (esRt (evC (.bl false))) esNx) (esSeq (esLock (evV 6) (esFor (eiAny (evV 6)) (egN 7) (esSeq (esIf (etV (evF (p.cl 84) (eaC (evV 7) (eaC (evV 2) (eaC (evTup (eaC (evV 3) (eaC (evV 4) eaN))) (eaC (evV 5) eaN)))))) (esRt (evC (.bl false))) esNx) (esIf (etNot (etV (evF ivAll (eaC (evLC (eiAny (evF (p.cl 26) (eaC (evV 1) (eaC (evV 7) eaN)))) (egT 2 (egsC (egN 8) (egsC (egN 9) egsN))) etYes (evB (ivInK p false (ivInD false)) (evV 8) (evV 6)) [8, 9]) eaN)))) (esRt (evC (.bl false))) esNx)))) (esRt (evC (.bl true)))))))
theorem b_Apart_shows (M : Mg T mg) (Mp : ∀ j, p.pat j = patOf j) (B : Bd T (Cz T P w mg base N_Apart_shows s_Apart_shows qual f cdv A outer s H E) p d) (Cd : CdOk T (Cz T P w mg base N_Apart_shows s_Apart_shows qual f cdv A outer s H E) d) : SSs T (Cz T P w mg base N_Apart_shows s_Apart_shows qual f cdv A outer s H E) (defBody s_Apart_shows) (e_Apart_shows p) :=
  (ss_cons (ss_expr (se_call 83 B rfl M.g_check_meeting M.k_check_meeting (sa_c (se_v 1) (sa_c (se_v 2) (sa_c (se_v 3) (sa_c (se_v 4) (sa_c (se_v 5) sa_n))))))) (ss_cons (ss_set 6 B.nd (se_lock (evU (getA p 16) (evV 0)) (se_dc true B (si_any B (se_att 16 B (se_v 0) M.nm_stands)) (own := [("stand", 7)]) (blkOk_by (by kernel_rfl)) (fun _ _ _ _ _ => (sgo_n 7 B.blk.nd)) (fun _ _ _ _ _ => spt_nil) (fun _ _ _ _ _ => (se_v 7)) (fun _ _ _ _ _ => se_bl)))) (ss_cons (ss_if (st_cmp (os_inK (neg := true) B (os_ninD B.K B.u65)) (se_call 25 B rfl M.g_start_of M.k_start_of (sa_c (se_v 1) sa_n)) (se_v 6)) (ss_one (ss_ret se_bl)) ss_nil) (ss_cons (ss_lock (evV 6) (ss_for own_passes B.calm (si_any B (se_v 6)) (sg_n 7 B.nd) (ss_cons (ss_if (st_v (se_call 84 B rfl M.g_does_meet M.k_does_meet (sa_c (se_v 7) (sa_c (se_v 2) (sa_c (se_tup (sa_c (se_v 3) (sa_c (se_v 4) sa_n))) (sa_c (se_v 5) sa_n)))))) (ss_one (ss_ret se_bl)) ss_nil) (ss_one (ss_if (st_not (st_v (se_fB (cs_all B.K B.calm) rfl M.n_all bt_all (sa_c (se_lc B.calm B.nd (si_any B (se_call 26 B rfl M.g_after M.k_after (sa_c (se_v 1) (sa_c (se_v 7) sa_n)))) (own := [("later", 8), ("gone", 9)]) (blkOk_by (by kernel_rfl)) (fun _ _ _ _ _ => (sgo_t B.blk.K B.blk.calm (sgos_c (sgo_n 8 B.blk.nd) (sgos_c (sgo_n 9 B.blk.nd) sgos_n)))) (fun _ _ _ _ _ => spt_nil) (fun _ _ _ _ _ => (se_cmp (os_inK (neg := false) B.blk (os_inD B.blk.K B.blk.u65)) (se_v 8) (se_v 6)))) sa_n)))) (ss_one (ss_ret se_bl)) ss_nil))))) (ss_one (ss_ret se_bl))))))

abbrev N_check_place : List Str := [("program" : Str), ("place" : Str)]
def e_check_place (p : Pg) : EvS := (esSeq (esX (evF (p.cl 14) (eaC (evV 0) eaN))) (esIf (etOr (etNot (etV (evF (p.cl 3) (eaC (evV 1) eaN)))) (etNot (etV (evCh2 ivLe ivLe (evC (.int 0)) (evV 1) (evF (ivLenK ivLen) (eaC (evU (getA p 6) (evV 0)) eaN)))))) esBad esNx))
theorem b_check_place (M : Mg T mg) (Mp : ∀ j, p.pat j = patOf j) (B : Bd T (Cz T P w mg base N_check_place s_check_place qual f cdv A outer s H E) p d) (Cd : CdOk T (Cz T P w mg base N_check_place s_check_place qual f cdv A outer s H E) d) : SSs T (Cz T P w mg base N_check_place s_check_place qual f cdv A outer s H E) (defBody s_check_place) (e_check_place p) :=
  (ss_cons (ss_expr (se_call 14 B rfl M.g_check_program M.k_check_program (sa_c (se_v 0) sa_n))) (ss_one (ss_if (SW.st (sw_or (st_not (st_v (se_call 3 B rfl M.g_is_integer M.k_is_integer (sa_c (se_v 1) sa_n)))) (sw_or1 (st_not (st_ch2 (os_le) (os_le) se_int (se_v 1) (se_fB (cs_lenK B (cs_len B.K)) rfl M.n_len bt_len (sa_c (se_att 6 B (se_v 0) M.nm_steps) sa_n))))))) (ss_one (ss_bad _)) ss_nil)))

abbrev N_check_thing : List Str := [("thing" : Str)]
def e_check_thing (p : Pg) : EvS := (esIf (etOr (etNot (etV (evF (ivIsi p) (eaC (evV 0) (eaC (evC (.ty 3)) eaN))))) (etV (evB (ivInK p true (ivInD true)) (evV 0) (evC c_THINGS)))) esBad esNx)
theorem b_check_thing (M : Mg T mg) (Mp : ∀ j, p.pat j = patOf j) (B : Bd T (Cz T P w mg base N_check_thing s_check_thing qual f cdv A outer s H E) p d) (Cd : CdOk T (Cz T P w mg base N_check_thing s_check_thing qual f cdv A outer s H E) d) : SSs T (Cz T P w mg base N_check_thing s_check_thing qual f cdv A outer s H E) (defBody s_check_thing) (e_check_thing p) :=
  (ss_one (ss_if (SW.st (sw_or (st_not (st_v (se_fB (cs_isi B) rfl M.n_isinstance bt_isinstance (sa_c (se_v 0) (sa_c (se_ty 3 rfl M.n_str bt_str) sa_n))))) (sw_or1 (st_cmp (os_inK (neg := true) B (os_ninD B.K B.u65)) (se_v 0) (se_glE rfl M.c_THINGS))))) (ss_one (ss_bad _)) ss_nil))

abbrev N_is_register : List Str := [("program" : Str), ("value" : Str)]
def e_is_register (p : Pg) : EvS := (esRt (evAnd (evF (ivIsi p) (eaC (evV 1) (eaC (evC (.ty 3)) eaN))) (evB (ivInK p false (ivInD false)) (evV 1) (evSl (evC c_NAMES) eoN (eoS (evU (getA p 5) (evV 0)))))))
theorem b_is_register (M : Mg T mg) (Mp : ∀ j, p.pat j = patOf j) (B : Bd T (Cz T P w mg base N_is_register s_is_register qual f cdv A outer s H E) p d) (Cd : CdOk T (Cz T P w mg base N_is_register s_is_register qual f cdv A outer s H E) d) : SSs T (Cz T P w mg base N_is_register s_is_register qual f cdv A outer s H E) (defBody s_is_register) (e_is_register p) :=
  (ss_one (ss_ret (se_and (se_fB (cs_isi B) rfl M.n_isinstance bt_isinstance (sa_c (se_v 1) (sa_c (se_ty 3 rfl M.n_str bt_str) sa_n))) (se_one (se_cmp (os_inK (neg := false) B (os_inD B.K B.u65)) (se_v 1) (se_sl B.K (se_glE rfl M.c_NAMES) so_n (so_s (se_att 5 B (se_v 0) M.nm_many))))))))

abbrev N_check_meeting : List Str := [("program" : Str), ("place" : Str), ("one" : Str), ("other" : Str), ("thing" : Str)]
def e_check_meeting (p : Pg) : EvS := (esSeq (esX (evF (p.cl 80) (eaC (evV 0) (eaC (evV 1) eaN)))) (esSeq (esIf (etOr (etNot (etV (evF (p.cl 82) (eaC (evV 0) (eaC (evV 2) eaN))))) (etOr (etNot (etV (evF (p.cl 82) (eaC (evV 0) (eaC (evV 3) eaN))))) (etV (evB (ivEqD false) (evV 2) (evV 3))))) esBad esNx) (esX (evF (p.cl 81) (eaC (evV 4) eaN)))))
theorem b_check_meeting (M : Mg T mg) (Mp : ∀ j, p.pat j = patOf j) (B : Bd T (Cz T P w mg base N_check_meeting s_check_meeting qual f cdv A outer s H E) p d) (Cd : CdOk T (Cz T P w mg base N_check_meeting s_check_meeting qual f cdv A outer s H E) d) : SSs T (Cz T P w mg base N_check_meeting s_check_meeting qual f cdv A outer s H E) (defBody s_check_meeting) (e_check_meeting p) :=
  (ss_cons (ss_expr (se_call 80 B rfl M.g_check_place M.k_check_place (sa_c (se_v 0) (sa_c (se_v 1) sa_n)))) (ss_cons (ss_if (SW.st (sw_or (st_not (st_v (se_call 82 B rfl M.g_is_register M.k_is_register (sa_c (se_v 0) (sa_c (se_v 2) sa_n))))) (sw_or (st_not (st_v (se_call 82 B rfl M.g_is_register M.k_is_register (sa_c (se_v 0) (sa_c (se_v 3) sa_n))))) (sw_or1 (st_cmp (os_eqD B.K B.u64) (se_v 2) (se_v 3)))))) (ss_one (ss_bad _)) ss_nil) (ss_one (ss_expr (se_call 81 B rfl M.g_check_thing M.k_check_thing (sa_c (se_v 4) sa_n))))))

abbrev N_does_meet : List Str := [("stand" : Str), ("place" : Str), ("names" : Str), ("thing" : Str), ("one" : Str), ("other" : Str), ("name" : Str)]
def e_does_meet (p : Pg) : EvS := (esSeq (esAs (evLock (evV 2) (evLC (eiAny (evV 2)) (egN 6) etYes (evB (ivIxK p ivIx) (evB (ivIxK p ivIx) (evV 0) (evC (.int 1))) (evKI l_NAMES (eaC (evV 6) eaN))) [6])) (egTL 2 (egsC (egN 4) (egsC (egN 5) egsN)))) (esSeq (esIf (etOr (etV (evB (ivEqD true) (evB (ivIxK p ivIx) (evV 0) (evC (.int 0))) (evV 1))) (etOr (etV (evB (ivIs false) (evV 4) (evC .non))) (etOr (etV (evB (ivIs false) (evV 5) (evC .non))) (etV (evB (ivEqD true) (evB (ivIxK p ivIx) (evV 4) (evC (.int 0))) (evB (ivIxK p ivIx) (evV 5) (evC (.int 0)))))))) (esRt (evC (.bl false))) esNx) (esRt (evOr (evB (ivEqD false) (evV 3) (evC (.str ⟨#[98, 117, 102, 102, 101, 114]⟩))) (evB ivLt (evF ivMax (eaC (evB (ivIxK p ivIx) (evV 4) (evC (.int 1))) (eaC (evB (ivIxK p ivIx) (evV 5) (evC (.int 1))) eaN))) (evF ivMin (eaC (evB (ivIxK p ivIx) (evV 4) (evC (.int 2))) (eaC (evB (ivIxK p ivIx) (evV 5) (evC (.int 2))) eaN))))))))
theorem b_does_meet (M : Mg T mg) (Mp : ∀ j, p.pat j = patOf j) (B : Bd T (Cz T P w mg base N_does_meet s_does_meet qual f cdv A outer s H E) p d) (Cd : CdOk T (Cz T P w mg base N_does_meet s_does_meet qual f cdv A outer s H E) d) : SSs T (Cz T P w mg base N_does_meet s_does_meet qual f cdv A outer s H E) (defBody s_does_meet) (e_does_meet p) :=
  (ss_cons (ss_as (se_lock (evV 2) (se_lc B.calm B.nd (si_any B (se_v 2)) (own := [("name", 6)]) (blkOk_by (by kernel_rfl)) (fun _ _ _ _ _ => (sgo_n 6 B.blk.nd)) (fun _ _ _ _ _ => spt_nil) (fun _ _ _ _ _ => (se_ix (is_ixK B.blk (is_ix B.blk.K)) (se_ix (is_ixK B.blk (is_ix B.blk.K)) (se_v 0) se_int) (se_kidxE B.blk rfl M.i_NAMES (sa_c (se_v 6) sa_n)))))) (sg_tl B.K B.calm (sgs_c (sg_n 4 B.nd) (sgs_c (sg_n 5 B.nd) sgs_n)))) (ss_cons (ss_if (SW.st (sw_or (st_cmp (os_neD B.K B.u64) (se_ix (is_ixK B (is_ix B.K)) (se_v 0) se_int) (se_v 1)) (sw_or (st_cmp (os_is) (se_v 4) se_non) (sw_or (st_cmp (os_is) (se_v 5) se_non) (sw_or1 (st_cmp (os_neD B.K B.u64) (se_ix (is_ixK B (is_ix B.K)) (se_v 4) se_int) (se_ix (is_ixK B (is_ix B.K)) (se_v 5) se_int))))))) (ss_one (ss_ret se_bl)) ss_nil) (ss_one (ss_ret (se_or (se_cmp (os_eqD B.K B.u64) (se_v 3) (se_str (by decide +kernel))) (se_one (se_cmp (os_lt) (se_fB (cs_max B.calm) rfl M.n_max bt_max (sa_c (se_ix (is_ixK B (is_ix B.K)) (se_v 4) se_int) (sa_c (se_ix (is_ixK B (is_ix B.K)) (se_v 5) se_int) sa_n))) (se_fB (cs_min B.calm) rfl M.n_min bt_min (sa_c (se_ix (is_ixK B (is_ix B.K)) (se_v 4) se_int) (sa_c (se_ix (is_ixK B (is_ix B.K)) (se_v 5) se_int) sa_n))))))))))

abbrev N_met : List Str := [("program" : Str), ("place" : Str), ("names" : Str), ("thing" : Str), ("rows" : Str), ("before" : Str), ("some" : Str), ("stand" : Str)]
def e_met (p : Pg) : EvS := (esSeq (esAs (evF (p.cl 46) (eaC (evV 0) eaN)) (egTL 2 (egsC (egN 4) (egsC (egN 5) egsN)))) (esSeq (esLock (evV 4) (esSet 6 (evLC (eiAny (evV 4)) (egN 7) (etV (evF (p.cl 84) (eaC (evV 7) (eaC (evV 1) (eaC (evV 2) (eaC (evV 3) eaN)))))) (evV 7) [7]))) (esRt (evIf (etV (evB (ivEqD true) (evV 6) (evLst eaN))) (evF (mkI p 17) (eaC (evF (p.cl 48) (eaC (evF (p.cl 47) (eaC (evV 5) (eaC (evB (ivIxK p ivIx) (evV 6) (evC (.int 0))) eaN))) eaN)) eaN)) (evF (mkI p 18) (eaC (evF (ivListK ivList) (eaC (evV 4) eaN)) eaN))))))
theorem b_met (M : Mg T mg) (Mp : ∀ j, p.pat j = patOf j) (B : Bd T (Cz T P w mg base N_met s_met qual f cdv A outer s H E) p d) (Cd : CdOk T (Cz T P w mg base N_met s_met qual f cdv A outer s H E) d) : SSs T (Cz T P w mg base N_met s_met qual f cdv A outer s H E) (defBody s_met) (e_met p) :=
  (ss_cons (ss_as (se_call 46 B rfl M.g_explored M.k_explored (sa_c (se_v 0) sa_n)) (sg_tl B.K B.calm (sgs_c (sg_n 4 B.nd) (sgs_c (sg_n 5 B.nd) sgs_n)))) (ss_cons (ss_lock (evV 4) (ss_setLc 6 B.calm B.nd (si_any B (se_v 4)) (own := [("stand", 7)]) (blkOk_by (by kernel_rfl)) (fun _ _ _ _ _ => (sgo_n 7 B.blk.nd)) (fun _ _ _ _ _ => (spt_one (st_v (se_call 84 B.blk rfl M.g_does_meet M.k_does_meet (sa_c (se_v 7) (sa_c (se_v 1) (sa_c (se_v 2) (sa_c (se_v 3) sa_n)))))) takes0)) (fun _ _ _ _ _ => (se_v 7)) rfl)) (ss_one (ss_ret (se_if (st_cmp (os_neD B.K B.u64) (se_v 6) (se_lst sa_n)) (se_make 17 B rfl M.g_Meets M.k_Meets (sa_c (se_call 48 B rfl M.g_path_of M.k_path_of (sa_c (se_call 47 B rfl M.g_road M.k_road (sa_c (se_v 5) (sa_c (se_ix (is_ixK B (is_ix B.K)) (se_v 6) se_int) sa_n))) sa_n)) sa_n)) (se_make 18 B rfl M.g_Apart M.k_Apart (sa_c (se_fT (cs_listK B (cs_list B.K)) rfl M.n_list bt_list (sa_c (se_v 4) sa_n)) sa_n)))))))

abbrev N_meet : List Str := [("program" : Str), ("place" : Str), ("one" : Str), ("other" : Str), ("thing" : Str)]
def e_meet (p : Pg) : EvS := (esSeq (esX (evF (p.cl 83) (eaC (evV 0) (eaC (evV 1) (eaC (evV 2) (eaC (evV 3) (eaC (evV 4) eaN))))))) (esRt (evF (p.cl 85) (eaC (evV 0) (eaC (evV 1) (eaC (evTup (eaC (evV 2) (eaC (evV 3) eaN))) (eaC (evV 4) eaN)))))))
theorem b_meet (M : Mg T mg) (Mp : ∀ j, p.pat j = patOf j) (B : Bd T (Cz T P w mg base N_meet s_meet qual f cdv A outer s H E) p d) (Cd : CdOk T (Cz T P w mg base N_meet s_meet qual f cdv A outer s H E) d) : SSs T (Cz T P w mg base N_meet s_meet qual f cdv A outer s H E) (defBody s_meet) (e_meet p) :=
  (ss_cons (ss_expr (se_call 83 B rfl M.g_check_meeting M.k_check_meeting (sa_c (se_v 0) (sa_c (se_v 1) (sa_c (se_v 2) (sa_c (se_v 3) (sa_c (se_v 4) sa_n))))))) (ss_one (ss_ret (se_call 85 B rfl M.g_met M.k_met (sa_c (se_v 0) (sa_c (se_v 1) (sa_c (se_tup (sa_c (se_v 2) (sa_c (se_v 3) sa_n))) (sa_c (se_v 4) sa_n))))))))

abbrev N_can_meet : List Str := [("program" : Str), ("place" : Str), ("one" : Str), ("other" : Str), ("thing" : Str)]
def e_can_meet (p : Pg) : EvS := (esRt (evF (ivIsi p) (eaC (evF (p.cl 86) (eaC (evV 0) (eaC (evV 1) (eaC (evV 2) (eaC (evV 3) (eaC (evV 4) eaN)))))) (eaC (evC (.cls 17)) eaN))))
theorem b_can_meet (M : Mg T mg) (Mp : ∀ j, p.pat j = patOf j) (B : Bd T (Cz T P w mg base N_can_meet s_can_meet qual f cdv A outer s H E) p d) (Cd : CdOk T (Cz T P w mg base N_can_meet s_can_meet qual f cdv A outer s H E) d) : SSs T (Cz T P w mg base N_can_meet s_can_meet qual f cdv A outer s H E) (defBody s_can_meet) (e_can_meet p) :=
  (ss_one (ss_ret (se_fB (cs_isi B) rfl M.n_isinstance bt_isinstance (sa_c (se_call 86 B rfl M.g_meet M.k_meet (sa_c (se_v 0) (sa_c (se_v 1) (sa_c (se_v 2) (sa_c (se_v 3) (sa_c (se_v 4) sa_n)))))) (sa_c (se_cl 17 rfl M.g_Meets) sa_n)))))

abbrev N_pairs_that_meet : List Str := [("program" : Str), ("place" : Str), ("thing" : Str), ("names" : Str), ("pairs" : Str), ("rows" : Str), ("at" : Str), ("one" : Str), ("other" : Str), ("pair" : Str), ("stand" : Str)]
def e_pairs_that_meet (p : Pg) : EvS := (esSeq (esX (evF (p.cl 80) (eaC (evV 0) (eaC (evV 1) eaN)))) (esSeq (esX (evF (p.cl 81) (eaC (evV 2) eaN))) (esSeq (esSet 3 (evSl (evC c_NAMES) eoN (eoS (evU (getA p 5) (evV 0))))) (esSeq (esSet 4 (evLC2 (eiEnum (evV 3)) (egT 2 (egsC (egN 6) (egsC (egN 7) egsN))) etYes (eiAny (evSl (evV 3) (eoS (evB ivAdd (evV 6) (evC (.int 1)))) eoN)) (egN 8) etYes (evTup (eaC (evV 7) (eaC (evV 8) eaN))) [6, 7, 8] [8])) (esSeq (esSet 5 (evB (ivIxK p ivIx) (evF (p.cl 46) (eaC (evV 0) eaN)) (evC (.int 0)))) (esRt (evLock (evV 4) (evLC (eiAny (evV 4)) (egN 9) (etV (evF ivAny (eaC (evLock (evV 5) (evLC (eiAny (evV 5)) (egN 10) etYes (evF (p.cl 84) (eaC (evV 10) (eaC (evV 1) (eaC (evV 9) (eaC (evV 2) eaN))))) [10])) eaN))) (evV 9) [9]))))))))
theorem b_pairs_that_meet (M : Mg T mg) (Mp : ∀ j, p.pat j = patOf j) (B : Bd T (Cz T P w mg base N_pairs_that_meet s_pairs_that_meet qual f cdv A outer s H E) p d) (Cd : CdOk T (Cz T P w mg base N_pairs_that_meet s_pairs_that_meet qual f cdv A outer s H E) d) : SSs T (Cz T P w mg base N_pairs_that_meet s_pairs_that_meet qual f cdv A outer s H E) (defBody s_pairs_that_meet) (e_pairs_that_meet p) :=
  (ss_cons (ss_expr (se_call 80 B rfl M.g_check_place M.k_check_place (sa_c (se_v 0) (sa_c (se_v 1) sa_n)))) (ss_cons (ss_expr (se_call 81 B rfl M.g_check_thing M.k_check_thing (sa_c (se_v 2) sa_n))) (ss_cons (ss_set 3 B.nd (se_sl B.K (se_glE rfl M.c_NAMES) so_n (so_s (se_att 5 B (se_v 0) M.nm_many)))) (ss_cons (ss_setLc2 4 B.calm B.nd (si_enum B rfl M.n_enumerate (se_v 3)) (own := [("at", 6), ("one", 7), ("other", 8)]) (vs1 := [8]) (blkOk_by (by kernel_rfl)) (fun _ _ _ _ _ => (sgo_t B.blk.K B.blk.calm (sgos_c (sgo_n 6 B.blk.nd) (sgos_c (sgo_n 7 B.blk.nd) sgos_n)))) (fun _ _ _ _ _ => spt_nil) (fun _ _ _ _ _ => (si_any B.blk (se_sl B.blk.K (se_v 3) (so_s (se_bin (os_add B.blk.K) (se_v 6) se_int)) so_n))) (fun _ _ _ _ _ => (sgo_n 8 B.blk.nd)) (fun _ _ _ _ _ => spt_nil) (fun _ _ _ _ _ => (se_tup (sa_c (se_v 7) (sa_c (se_v 8) sa_n)))) rfl) (ss_cons (ss_set 5 B.nd (se_ix (is_ixK B (is_ix B.K)) (se_call 46 B rfl M.g_explored M.k_explored (sa_c (se_v 0) sa_n)) se_int)) (ss_one (ss_ret (se_lock (evV 4) (se_lc B.calm B.nd (si_any B (se_v 4)) (own := [("pair", 9)]) (blkOk_by (by kernel_rfl)) (fun _ _ _ _ _ => (sgo_n 9 B.blk.nd)) (fun _ _ _ _ _ => (spt_one (st_v (se_fB (cs_any B.blk.K B.blk.calm) rfl M.n_any bt_any (sa_c (se_lock (evV 5) (se_lc B.blk.calm B.blk.nd (si_any B.blk (se_v 5)) (own := [("stand", 10)]) (blkOk_by (by kernel_rfl)) (fun _ _ _ _ _ => (sgo_n 10 B.blk.blk.nd)) (fun _ _ _ _ _ => spt_nil) (fun _ _ _ _ _ => (se_call 84 B.blk.blk rfl M.g_does_meet M.k_does_meet (sa_c (se_v 10) (sa_c (se_v 1) (sa_c (se_v 9) (sa_c (se_v 2) sa_n)))))))) sa_n))) takes0)) (fun _ _ _ _ _ => (se_v 9)))))))))))

abbrev N__law_cuts : List Str := [("_law_steps" : Str)]
def e__law_cuts (p : Pg) : EvS := (esSeq (esSet 0 (evTup (eaC (evTup (eaC (evC (.str ⟨#[114, 101, 97, 100]⟩)) (eaC (evC (.str ⟨#[97]⟩)) (eaC (evC (.int 4)) eaN)))) (eaC (evTup (eaC (evC (.str ⟨#[99, 117, 116]⟩)) (eaC (evC (.str ⟨#[98]⟩)) (eaC (evC (.str ⟨#[97]⟩)) (eaC (evC (.int 0)) (eaC (evC (.int 2)) eaN)))))) (eaC (evTup (eaC (evC (.str ⟨#[99, 117, 116]⟩)) (eaC (evC (.str ⟨#[97]⟩)) (eaC (evC (.str ⟨#[97]⟩)) (eaC (evC (.int 2)) (eaC (evC (.int 4)) eaN)))))) (eaC (evTup (eaC (evC (.str ⟨#[116, 105, 103, 104, 116]⟩)) (eaC (evC (.str ⟨#[98]⟩)) (eaC (evC (.str ⟨#[98]⟩)) eaN)))) eaN)))))) (esRt (evF (mkI p 9) (eaC (evC (.int 4)) (eaC (evC (.int 2)) (eaC (evV 0) eaN))))))
theorem b__law_cuts (M : Mg T mg) (Mp : ∀ j, p.pat j = patOf j) (B : Bd T (Cz T P w mg base N__law_cuts s__law_cuts qual f cdv A outer s H E) p d) (Cd : CdOk T (Cz T P w mg base N__law_cuts s__law_cuts qual f cdv A outer s H E) d) : SSs T (Cz T P w mg base N__law_cuts s__law_cuts qual f cdv A outer s H E) (defBody s__law_cuts) (e__law_cuts p) :=
  (ss_cons (ss_set 0 B.nd (se_tup (sa_c (se_tup (sa_c (se_str (by decide +kernel)) (sa_c (se_str (by decide +kernel)) (sa_c se_int sa_n)))) (sa_c (se_tup (sa_c (se_str (by decide +kernel)) (sa_c (se_str (by decide +kernel)) (sa_c (se_str (by decide +kernel)) (sa_c se_int (sa_c se_int sa_n)))))) (sa_c (se_tup (sa_c (se_str (by decide +kernel)) (sa_c (se_str (by decide +kernel)) (sa_c (se_str (by decide +kernel)) (sa_c se_int (sa_c se_int sa_n)))))) (sa_c (se_tup (sa_c (se_str (by decide +kernel)) (sa_c (se_str (by decide +kernel)) (sa_c (se_str (by decide +kernel)) sa_n)))) sa_n)))))) (ss_one (ss_ret (se_make 9 B rfl M.g_Program M.k_Program (sa_c se_int (sa_c se_int (sa_c (se_v 0) sa_n)))))))

def q__law_meeting_right_0 (p : Pg) : EvS := (esAs (evTup (eaC (evF (p.cl 89) eaN) (eaC (evTup (eaC (evC (.int 0)) (eaC (evC (.int 1)) (eaC (evC (.int 2)) (eaC (evC (.int 3)) (eaC (evC (.int 4)) eaN)))))) eaN))) (egTL 2 (egsC (egN 0) (egsC (egN 1) egsN))))
def q__law_meeting_right_1 (p : Pg) : EvS := (esIf (etV (evB (ivEqD true) (evLock (evV 1) (evLC (eiAny (evV 1)) (egN 4) etYes (evF (p.cl 87) (eaC (evV 0) (eaC (evV 4) (eaC (evC (.str ⟨#[97]⟩)) (eaC (evC (.str ⟨#[98]⟩)) (eaC (evC (.str ⟨#[98, 117, 102, 102, 101, 114]⟩)) eaN)))))) [4])) (evLst (eaC (evC (.bl false)) (eaC (evC (.bl false)) (eaC (evC (.bl true)) (eaC (evC (.bl true)) (eaC (evC (.bl false)) eaN)))))))) (esRt (evC (.bl false))) esNx)
def q__law_meeting_right_2 (p : Pg) : EvS := (esIf (etV (evB (ivEqD true) (evLock (evV 1) (evLC (eiAny (evV 1)) (egN 4) etYes (evF (p.cl 87) (eaC (evV 0) (eaC (evV 4) (eaC (evC (.str ⟨#[98]⟩)) (eaC (evC (.str ⟨#[97]⟩)) (eaC (evC (.str ⟨#[99, 101, 108, 108]⟩)) eaN)))))) [4])) (evLst (eaC (evC (.bl false)) (eaC (evC (.bl false)) (eaC (evC (.bl true)) (eaC (evC (.bl false)) (eaC (evC (.bl false)) eaN)))))))) (esRt (evC (.bl false))) esNx)
def q__law_meeting_right_3 (p : Pg) : EvS := (esIf (etOr (etV (evB (ivEqD true) (evF (p.cl 88) (eaC (evV 0) (eaC (evC (.int 3)) (eaC (evC (.str ⟨#[98, 117, 102, 102, 101, 114]⟩)) eaN)))) (evLst (eaC (evTup (eaC (evC (.str ⟨#[97]⟩)) (eaC (evC (.str ⟨#[98]⟩)) eaN))) eaN)))) (etV (evB (ivEqD true) (evF (p.cl 88) (eaC (evV 0) (eaC (evC (.int 3)) (eaC (evC (.str ⟨#[99, 101, 108, 108]⟩)) eaN)))) (evLst eaN)))) (esRt (evC (.bl false))) esNx)
def q__law_meeting_right_4 (p : Pg) : EvS := (esIf (etOr (etV (evB (ivEqD true) (evU (getA p 8) (evF (p.cl 86) (eaC (evV 0) (eaC (evC (.int 3)) (eaC (evC (.str ⟨#[97]⟩)) (eaC (evC (.str ⟨#[98]⟩)) (eaC (evC (.str ⟨#[98, 117, 102, 102, 101, 114]⟩)) eaN))))))) (evTup (eaC (evC (.int 0)) (eaC (evC (.int 1)) (eaC (evC (.int 2)) (eaC (evC (.int 3)) eaN))))))) (etNot (etV (evF (ivIsi p) (eaC (evF (p.cl 86) (eaC (evV 0) (eaC (evC (.int 4)) (eaC (evC (.str ⟨#[97]⟩)) (eaC (evC (.str ⟨#[98]⟩)) (eaC (evC (.str ⟨#[99, 101, 108, 108]⟩)) eaN)))))) (eaC (evC (.cls 18)) eaN)))))) (esRt (evC (.bl false))) esNx)
def q__law_meeting_right_5 (p : Pg) : EvS := (esIf (etV (evB (ivIs true) (evMk p 12 [(76, 6), (79, 7)] 0 (evF (mkI p 17) (eaC (evTup (eaC (evC (.int 0)) (eaC (evC (.int 1)) (eaC (evC (.int 2)) eaN)))) eaN)) (eaC (evV 0) (eaC (evC (.int 2)) (eaC (evC (.str ⟨#[98]⟩)) (eaC (evC (.str ⟨#[97]⟩)) (eaC (evC (.str ⟨#[99, 101, 108, 108]⟩)) eaN))))) eaN) (evC (.bl true)))) (esRt (evC (.bl false))) esNx)
def q__law_meeting_right_6 (p : Pg) : EvS := (esIf (etV (evMk p 12 [(76, 6), (79, 7)] 0 (evF (mkI p 17) (eaC (evTup (eaC (evC (.int 0)) (eaC (evC (.int 1)) (eaC (evC (.int 2)) eaN)))) eaN)) (eaC (evV 0) (eaC (evC (.int 3)) (eaC (evC (.str ⟨#[97]⟩)) (eaC (evC (.str ⟨#[98]⟩)) (eaC (evC (.str ⟨#[99, 101, 108, 108]⟩)) eaN))))) eaN)) (esRt (evC (.bl false))) esNx)
def q__law_meeting_right_7 (p : Pg) : EvS := (esSet 2 (evF (p.cl 31) (eaC (evV 0) (eaC (evV 1) eaN))))
def q__law_meeting_right_8 (p : Pg) : EvS := (esIf (etOr (etV (evB (ivIs true) (evMk p 12 [(76, 6), (79, 7)] 0 (evF (mkI p 18) (eaC (evV 2) eaN)) (eaC (evV 0) (eaC (evC (.int 4)) (eaC (evC (.str ⟨#[97]⟩)) (eaC (evC (.str ⟨#[98]⟩)) (eaC (evC (.str ⟨#[98, 117, 102, 102, 101, 114]⟩)) eaN))))) eaN) (evC (.bl true)))) (etV (evMk p 12 [(76, 6), (79, 7)] 0 (evF (mkI p 18) (eaC (evV 2) eaN)) (eaC (evV 0) (eaC (evC (.int 3)) (eaC (evC (.str ⟨#[97]⟩)) (eaC (evC (.str ⟨#[98]⟩)) (eaC (evC (.str ⟨#[98, 117, 102, 102, 101, 114]⟩)) eaN))))) eaN))) (esRt (evC (.bl false))) esNx)
def q__law_meeting_right_9 (p : Pg) : EvS := (esIf (etOr (etV (evB (ivIs true) (evMk p 12 [(76, 6), (79, 7)] 0 (evF (mkI p 18) (eaC (evV 2) eaN)) (eaC (evV 0) (eaC (evC (.int 3)) (eaC (evC (.str ⟨#[97]⟩)) (eaC (evC (.str ⟨#[98]⟩)) (eaC (evC (.str ⟨#[99, 101, 108, 108]⟩)) eaN))))) eaN) (evC (.bl true)))) (etV (evMk p 12 [(76, 6), (79, 7)] 0 (evF (mkI p 18) (eaC (evSl (evV 2) eoN (eoS (evU ivNeg (evC (.int 1))))) eaN)) (eaC (evV 0) (eaC (evC (.int 4)) (eaC (evC (.str ⟨#[97]⟩)) (eaC (evC (.str ⟨#[98]⟩)) (eaC (evC (.str ⟨#[99, 101, 108, 108]⟩)) eaN))))) eaN))) (esRt (evC (.bl false))) esNx)
def q__law_meeting_right_10 (p : Pg) : EvS := (esSet 3 (evF (mkI p 9) (eaC (evC (.int 4)) (eaC (evC (.int 3)) (eaC (evTup (eaC (evTup (eaC (evC (.str ⟨#[114, 101, 97, 100]⟩)) (eaC (evC (.str ⟨#[97]⟩)) (eaC (evC (.int 2)) eaN)))) (eaC (evTup (eaC (evC (.str ⟨#[109, 111, 118, 101]⟩)) (eaC (evC (.str ⟨#[99]⟩)) (eaC (evC (.str ⟨#[97]⟩)) eaN)))) (eaC (evTup (eaC (evC (.str ⟨#[106, 111, 105, 110]⟩)) (eaC (evC (.str ⟨#[98]⟩)) (eaC (evC (.str ⟨#[97]⟩)) (eaC (evC (.str ⟨#[99]⟩)) eaN))))) (eaC (evTup (eaC (evC (.str ⟨#[97, 115, 107]⟩)) (eaC (evC (.int 0)) eaN))) eaN))))) eaN)))))
def q__law_meeting_right_11 (p : Pg) : EvS := (esIf (etOr (etV (evB (ivEqD true) (evF (p.cl 88) (eaC (evV 3) (eaC (evC (.int 2)) (eaC (evC (.str ⟨#[99, 101, 108, 108]⟩)) eaN)))) (evLst (eaC (evTup (eaC (evC (.str ⟨#[97]⟩)) (eaC (evC (.str ⟨#[99]⟩)) eaN))) eaN)))) (etV (evB (ivEqD true) (evF (p.cl 88) (eaC (evV 3) (eaC (evC (.int 3)) (eaC (evC (.str ⟨#[98, 117, 102, 102, 101, 114]⟩)) eaN)))) (evLst (eaC (evTup (eaC (evC (.str ⟨#[97]⟩)) (eaC (evC (.str ⟨#[99]⟩)) eaN))) eaN))))) (esRt (evC (.bl false))) esNx)
def q__law_meeting_right_12 (p : Pg) : EvS := (esRt (evAnd (evB (ivEqD false) (evF (p.cl 88) (eaC (evV 3) (eaC (evC (.int 1)) (eaC (evC (.str ⟨#[98, 117, 102, 102, 101, 114]⟩)) eaN)))) (evLst eaN)) (evNot (evF (p.cl 87) (eaC (evV 3) (eaC (evC (.int 4)) (eaC (evC (.str ⟨#[98]⟩)) (eaC (evC (.str ⟨#[99]⟩)) (eaC (evC (.str ⟨#[98, 117, 102, 102, 101, 114]⟩)) eaN)))))))))
abbrev N__law_meeting_right : List Str := [("_law_cuts_here" : Str), ("_law_path" : Str), ("_law_every" : Str), ("_law_again" : Str), ("_law_place" : Str)]
def e__law_meeting_right (p : Pg) : EvS := (esSeq (esGc (q__law_meeting_right_0 p)) (esSeq (esGc (q__law_meeting_right_1 p)) (esSeq (esGc (q__law_meeting_right_2 p)) (esSeq (esGc (q__law_meeting_right_3 p)) (esSeq (esGc (q__law_meeting_right_4 p)) (esSeq (esGc (q__law_meeting_right_5 p)) (esSeq (esGc (q__law_meeting_right_6 p)) (esSeq (esGc (q__law_meeting_right_7 p)) (esSeq (esGc (q__law_meeting_right_8 p)) (esSeq (esGc (q__law_meeting_right_9 p)) (esSeq (esGc (q__law_meeting_right_10 p)) (esSeq (esGc (q__law_meeting_right_11 p)) (esGc (q__law_meeting_right_12 p))))))))))))))
theorem b__law_meeting_right (M : Mg T mg) (Mp : ∀ j, p.pat j = patOf j) (B : Bd T (Cz T P w mg base N__law_meeting_right s__law_meeting_right qual f cdv A outer s H E) p d) (Cd : CdOk T (Cz T P w mg base N__law_meeting_right s__law_meeting_right qual f cdv A outer s H E) d) : SSs T (Cz T P w mg base N__law_meeting_right s__law_meeting_right qual f cdv A outer s H E) (defBody s__law_meeting_right) (e__law_meeting_right p) :=
  (ss_cons (ss_gc (ss_as (se_tup (sa_c (se_call0 89 B rfl M.g__law_cuts M.k__law_cuts) (sa_c (se_tup (sa_c se_int (sa_c se_int (sa_c se_int (sa_c se_int (sa_c se_int sa_n)))))) sa_n))) (sg_tl B.K B.calm (sgs_c (sg_n 0 B.nd) (sgs_c (sg_n 1 B.nd) sgs_n))))) (ss_cons (ss_gc (ss_if (st_cmp (os_neD B.K B.u64) (se_lock (evV 1) (se_lc B.calm B.nd (si_any B (se_v 1)) (own := [("_law_place", 4)]) (blkOk_by (by kernel_rfl)) (fun _ _ _ _ _ => (sgo_n 4 B.blk.nd)) (fun _ _ _ _ _ => spt_nil) (fun _ _ _ _ _ => (se_call 87 B.blk rfl M.g_can_meet M.k_can_meet (sa_c (se_v 0) (sa_c (se_v 4) (sa_c (se_str (by decide +kernel)) (sa_c (se_str (by decide +kernel)) (sa_c (se_str (by decide +kernel)) sa_n))))))))) (se_lst (sa_c se_bl (sa_c se_bl (sa_c se_bl (sa_c se_bl (sa_c se_bl sa_n))))))) (ss_one (ss_ret se_bl)) ss_nil)) (ss_cons (ss_gc (ss_if (st_cmp (os_neD B.K B.u64) (se_lock (evV 1) (se_lc B.calm B.nd (si_any B (se_v 1)) (own := [("_law_place", 4)]) (blkOk_by (by kernel_rfl)) (fun _ _ _ _ _ => (sgo_n 4 B.blk.nd)) (fun _ _ _ _ _ => spt_nil) (fun _ _ _ _ _ => (se_call 87 B.blk rfl M.g_can_meet M.k_can_meet (sa_c (se_v 0) (sa_c (se_v 4) (sa_c (se_str (by decide +kernel)) (sa_c (se_str (by decide +kernel)) (sa_c (se_str (by decide +kernel)) sa_n))))))))) (se_lst (sa_c se_bl (sa_c se_bl (sa_c se_bl (sa_c se_bl (sa_c se_bl sa_n))))))) (ss_one (ss_ret se_bl)) ss_nil)) (ss_cons (ss_gc (ss_if (SW.st (sw_or (st_cmp (os_neD B.K B.u64) (se_call 88 B rfl M.g_pairs_that_meet M.k_pairs_that_meet (sa_c (se_v 0) (sa_c se_int (sa_c (se_str (by decide +kernel)) sa_n)))) (se_lst (sa_c (se_tup (sa_c (se_str (by decide +kernel)) (sa_c (se_str (by decide +kernel)) sa_n))) sa_n))) (sw_or1 (st_cmp (os_neD B.K B.u64) (se_call 88 B rfl M.g_pairs_that_meet M.k_pairs_that_meet (sa_c (se_v 0) (sa_c se_int (sa_c (se_str (by decide +kernel)) sa_n)))) (se_lst sa_n))))) (ss_one (ss_ret se_bl)) ss_nil)) (ss_cons (ss_gc (ss_if (SW.st (sw_or (st_cmp (os_neD B.K B.u64) (se_att 8 B (se_call 86 B rfl M.g_meet M.k_meet (sa_c (se_v 0) (sa_c se_int (sa_c (se_str (by decide +kernel)) (sa_c (se_str (by decide +kernel)) (sa_c (se_str (by decide +kernel)) sa_n)))))) M.nm_path) (se_tup (sa_c se_int (sa_c se_int (sa_c se_int (sa_c se_int sa_n)))))) (sw_or1 (st_not (st_v (se_fB (cs_isi B) rfl M.n_isinstance bt_isinstance (sa_c (se_call 86 B rfl M.g_meet M.k_meet (sa_c (se_v 0) (sa_c se_int (sa_c (se_str (by decide +kernel)) (sa_c (se_str (by decide +kernel)) (sa_c (se_str (by decide +kernel)) sa_n)))))) (sa_c (se_cl 18 rfl M.g_Apart) sa_n)))))))) (ss_one (ss_ret se_bl)) ss_nil)) (ss_cons (ss_gc (ss_if (st_cmp (os_isnot) (se_meK (ks := []) 12 [(76, 6), (79, 7)] (hjs_of Mp (by decide +kernel)) B (se_make 17 B rfl M.g_Meets M.k_Meets (sa_c (se_tup (sa_c se_int (sa_c se_int (sa_c se_int sa_n)))) sa_n)) (sa_c (se_v 0) (sa_c se_int (sa_c (se_str (by decide +kernel)) (sa_c (se_str (by decide +kernel)) (sa_c (se_str (by decide +kernel)) sa_n))))) sk_n M.nm_shows) se_bl) (ss_one (ss_ret se_bl)) ss_nil)) (ss_cons (ss_gc (ss_if (st_v (se_meK (ks := []) 12 [(76, 6), (79, 7)] (hjs_of Mp (by decide +kernel)) B (se_make 17 B rfl M.g_Meets M.k_Meets (sa_c (se_tup (sa_c se_int (sa_c se_int (sa_c se_int sa_n)))) sa_n)) (sa_c (se_v 0) (sa_c se_int (sa_c (se_str (by decide +kernel)) (sa_c (se_str (by decide +kernel)) (sa_c (se_str (by decide +kernel)) sa_n))))) sk_n M.nm_shows)) (ss_one (ss_ret se_bl)) ss_nil)) (ss_cons (ss_gc (ss_set 2 B.nd (se_call 31 B rfl M.g_stands M.k_stands (sa_c (se_v 0) (sa_c (se_v 1) sa_n))))) (ss_cons (ss_gc (ss_if (SW.st (sw_or (st_cmp (os_isnot) (se_meK (ks := []) 12 [(76, 6), (79, 7)] (hjs_of Mp (by decide +kernel)) B (se_make 18 B rfl M.g_Apart M.k_Apart (sa_c (se_v 2) sa_n)) (sa_c (se_v 0) (sa_c se_int (sa_c (se_str (by decide +kernel)) (sa_c (se_str (by decide +kernel)) (sa_c (se_str (by decide +kernel)) sa_n))))) sk_n M.nm_shows) se_bl) (sw_or1 (st_v (se_meK (ks := []) 12 [(76, 6), (79, 7)] (hjs_of Mp (by decide +kernel)) B (se_make 18 B rfl M.g_Apart M.k_Apart (sa_c (se_v 2) sa_n)) (sa_c (se_v 0) (sa_c se_int (sa_c (se_str (by decide +kernel)) (sa_c (se_str (by decide +kernel)) (sa_c (se_str (by decide +kernel)) sa_n))))) sk_n M.nm_shows))))) (ss_one (ss_ret se_bl)) ss_nil)) (ss_cons (ss_gc (ss_if (SW.st (sw_or (st_cmp (os_isnot) (se_meK (ks := []) 12 [(76, 6), (79, 7)] (hjs_of Mp (by decide +kernel)) B (se_make 18 B rfl M.g_Apart M.k_Apart (sa_c (se_v 2) sa_n)) (sa_c (se_v 0) (sa_c se_int (sa_c (se_str (by decide +kernel)) (sa_c (se_str (by decide +kernel)) (sa_c (se_str (by decide +kernel)) sa_n))))) sk_n M.nm_shows) se_bl) (sw_or1 (st_v (se_meK (ks := []) 12 [(76, 6), (79, 7)] (hjs_of Mp (by decide +kernel)) B (se_make 18 B rfl M.g_Apart M.k_Apart (sa_c (se_sl B.K (se_v 2) so_n (so_s (se_un us_neg se_int))) sa_n)) (sa_c (se_v 0) (sa_c se_int (sa_c (se_str (by decide +kernel)) (sa_c (se_str (by decide +kernel)) (sa_c (se_str (by decide +kernel)) sa_n))))) sk_n M.nm_shows))))) (ss_one (ss_ret se_bl)) ss_nil)) (ss_cons (ss_gc (ss_set 3 B.nd (se_make 9 B rfl M.g_Program M.k_Program (sa_c se_int (sa_c se_int (sa_c (se_tup (sa_c (se_tup (sa_c (se_str (by decide +kernel)) (sa_c (se_str (by decide +kernel)) (sa_c se_int sa_n)))) (sa_c (se_tup (sa_c (se_str (by decide +kernel)) (sa_c (se_str (by decide +kernel)) (sa_c (se_str (by decide +kernel)) sa_n)))) (sa_c (se_tup (sa_c (se_str (by decide +kernel)) (sa_c (se_str (by decide +kernel)) (sa_c (se_str (by decide +kernel)) (sa_c (se_str (by decide +kernel)) sa_n))))) (sa_c (se_tup (sa_c (se_str (by decide +kernel)) (sa_c se_int sa_n))) sa_n))))) sa_n)))))) (ss_cons (ss_gc (ss_if (SW.st (sw_or (st_cmp (os_neD B.K B.u64) (se_call 88 B rfl M.g_pairs_that_meet M.k_pairs_that_meet (sa_c (se_v 3) (sa_c se_int (sa_c (se_str (by decide +kernel)) sa_n)))) (se_lst (sa_c (se_tup (sa_c (se_str (by decide +kernel)) (sa_c (se_str (by decide +kernel)) sa_n))) sa_n))) (sw_or1 (st_cmp (os_neD B.K B.u64) (se_call 88 B rfl M.g_pairs_that_meet M.k_pairs_that_meet (sa_c (se_v 3) (sa_c se_int (sa_c (se_str (by decide +kernel)) sa_n)))) (se_lst (sa_c (se_tup (sa_c (se_str (by decide +kernel)) (sa_c (se_str (by decide +kernel)) sa_n))) sa_n)))))) (ss_one (ss_ret se_bl)) ss_nil)) (ss_one (ss_gc (ss_ret (se_and (se_cmp (os_eqD B.K B.u64) (se_call 88 B rfl M.g_pairs_that_meet M.k_pairs_that_meet (sa_c (se_v 3) (sa_c se_int (sa_c (se_str (by decide +kernel)) sa_n)))) (se_lst sa_n)) (se_one (se_not (se_call 87 B rfl M.g_can_meet M.k_can_meet (sa_c (se_v 3) (sa_c se_int (sa_c (se_str (by decide +kernel)) (sa_c (se_str (by decide +kernel)) (sa_c (se_str (by decide +kernel)) sa_n))))))))))))))))))))))))

def q__law_tight_right_0 (p : Pg) : EvS := (esSet 0 (evTup (eaC (evTup (eaC (evC (.str ⟨#[114, 101, 97, 100]⟩)) (eaC (evC (.str ⟨#[97]⟩)) (eaC (evC (.int 4)) eaN)))) (eaC (evTup (eaC (evC (.str ⟨#[99, 117, 116]⟩)) (eaC (evC (.str ⟨#[97]⟩)) (eaC (evC (.str ⟨#[97]⟩)) (eaC (evC (.int 0)) (eaC (evC (.int 1)) eaN)))))) (eaC (evTup (eaC (evC (.str ⟨#[109, 111, 118, 101]⟩)) (eaC (evC (.str ⟨#[98]⟩)) (eaC (evC (.str ⟨#[97]⟩)) eaN)))) (eaC (evTup (eaC (evC (.str ⟨#[107, 101, 101, 112]⟩)) (eaC (evC (.str ⟨#[98]⟩)) eaN))) (eaC (evTup (eaC (evC (.str ⟨#[97, 115, 107]⟩)) (eaC (evC (.int 0)) eaN))) eaN)))))))
def q__law_tight_right_1 (p : Pg) : EvS := (esAs (evTup (eaC (evF (mkI p 9) (eaC (evC (.int 4)) (eaC (evC (.int 2)) (eaC (evV 0) eaN)))) (eaC (evDD false (epC (evC (.int 2)) (evC (.int 1)) (epC (evC (.int 3)) (evC (.int 5)) epN))) eaN))) (egTL 2 (egsC (egN 1) (egsC (egN 2) egsN))))
def q__law_tight_right_2 (p : Pg) : EvS := (esIf (etOr (etV (evB (ivEqD true) (evF (p.cl 70) (eaC (evV 1) (eaC (evV 2) eaN))) (evLst (eaC (evTup eaN) (eaC (evTup (eaC (evC (.int 2)) eaN)) (eaC (evTup (eaC (evC (.int 3)) eaN)) (eaC (evTup (eaC (evC (.int 2)) (eaC (evC (.int 3)) eaN))) eaN))))))) (etV (evB (ivEqD true) (evF (p.cl 70) (eaC (evV 1) (eaC (evDD false (epC (evC (.int 2)) (evC (.int 5)) (epC (evC (.int 3)) (evC (.int 1)) epN))) eaN))) (evLst (eaC (evTup eaN) (eaC (evTup (eaC (evC (.int 3)) eaN)) (eaC (evTup (eaC (evC (.int 2)) eaN)) (eaC (evTup (eaC (evC (.int 2)) (eaC (evC (.int 3)) eaN))) eaN)))))))) (esRt (evC (.bl false))) esNx)
def q__law_tight_right_3 (p : Pg) : EvS := (esIf (etV (evB (ivEqD true) (evSl (evU (getA p 6) (evF (p.cl 71) (eaC (evV 1) (eaC (evV 2) (eaC (evTup (eaC (evC (.int 2)) (eaC (evC (.int 3)) eaN))) eaN))))) (eoS (evC (.int 2))) (eoS (evC (.int 4)))) (evTup (eaC (evTup (eaC (evC (.str ⟨#[116, 105, 103, 104, 116]⟩)) (eaC (evC (.str ⟨#[98]⟩)) (eaC (evC (.str ⟨#[97]⟩)) eaN)))) (eaC (evTup (eaC (evC (.str ⟨#[112, 97, 99, 107]⟩)) (eaC (evC (.str ⟨#[98]⟩)) eaN))) eaN))))) (esRt (evC (.bl false))) esNx)
def q__law_tight_right_4 (p : Pg) : EvS := (esSet 3 (evK (evKn 0 (p.ck 8)) (eaC (evV 1) (eaC (evV 2) eaN)) eaN))
def q__law_tight_right_5 (p : Pg) : EvS := (esIf (etOr (etV (evB (ivEqD true) (evU (getA p 13) (evV 3)) (evTup (eaC (evC (.int 2)) eaN)))) (etOr (etV (evB (ivEqD true) (evF (ivListK ivList) (eaC (evU (getA p 15) (evV 3)) eaN)) (evLst (eaC (evTup eaN) eaN)))) (etNot (etV (evF (ivIsi p) (eaC (evB (ivIxK p ivIx) (evU (getA p 15) (evV 3)) (evTup eaN)) (eaC (evC (.cls 13)) eaN))))))) (esRt (evC (.bl false))) esNx)
def q__law_tight_right_6 (p : Pg) : EvS := (esIf (etV (evB (ivEqD true) (evLC (eiAny (evTup (eaC (evV 2) (eaC (evDD false (epC (evC (.int 3)) (evC (.int 5)) epN)) (eaC (evDD false (epC (evC (.int 2)) (evC (.int 1)) (epC (evC (.int 3)) (evC (.int 1)) epN))) eaN))))) (egN 5) etYes (evK (evKn 0 (p.ck 9)) (eaC (evV 1) (eaC (evV 5) eaN)) eaN) [5]) (evLst (eaC (evC (.int 1)) (eaC (evC (.int 5)) (eaC (evC (.int 1)) eaN)))))) (esRt (evC (.bl false))) esNx)
def q__law_tight_right_7 (p : Pg) : EvS := (esIf (etV (evB (ivEqD true) (evLC (eiAny (evTup (eaC (evC (.int 0)) (eaC (evC (.int 2)) (eaC (evC (.int 3)) (eaC (evC (.int 6)) eaN)))))) (egN 6) etYes (evK (evKn 1 (p.ck 10)) (eaC (evV 1) (eaC (evV 2) eaN)) (eaC (evV 6) eaN)) [6]) (evLst (eaC (evC .non) (eaC (evC .non) (eaC (evC (.int 1)) (eaC (evC (.int 1)) eaN))))))) (esRt (evC (.bl false))) esNx)
def q__law_tight_right_8 (p : Pg) : EvS := (esIf (etOr (etV (evB (ivEqD true) (evU (getA p 9) (evU (getA p 14) (evV 3))) (evC (.int 3)))) (etOr (etNot (etV (evMk p 12 [(66, 11), (69, 12)] 1 (evV 3) (eaC (evV 1) (eaC (evV 2) eaN)) (eaC (evC (.int 3)) eaN)))) (etV (evMk p 12 [(66, 11), (69, 12)] 1 (evV 3) (eaC (evV 1) (eaC (evV 2) eaN)) (eaC (evC (.int 2)) eaN))))) (esRt (evC (.bl false))) esNx)
def q__law_tight_right_9 (p : Pg) : EvS := (esSet 4 (evK (evKn 1 (p.ck 5)) (eaC (evV 1) (eaC (evV 2) eaN)) (eaC (evC (.int 0)) eaN)))
def q__law_tight_right_10 (p : Pg) : EvS := (esIf (etOr (etNot (etV (evF (ivIsi p) (eaC (evV 4) (eaC (evC (.cls 16)) eaN))))) (etOr (etNot (etV (evF (ivIsi p) (eaC (evB (ivIxK p ivIx) (evU (getA p 15) (evV 4)) (evTup (eaC (evC (.int 2)) eaN))) (eaC (evC (.cls 14)) eaN))))) (etV (evMk p 12 [(44, 2), (66, 3), (69, 4)] 0 (evV 4) (eaC (evV 1) (eaC (evV 2) eaN)) eaN)))) (esRt (evC (.bl false))) esNx)
def q__law_tight_right_11 (p : Pg) : EvS := (esIf (etOr (etV (evB (ivIs true) (evMk p 12 [(66, 11), (69, 12)] 1 (evV 4) (eaC (evV 1) (eaC (evV 2) eaN)) (eaC (evC (.int 0)) eaN)) (evC (.bl true)))) (etNot (etV (evMk p 12 [(66, 11), (69, 12)] 1 (evV 4) (eaC (evV 1) (eaC (evV 2) eaN)) (eaC (evC (.int 2)) eaN))))) (esRt (evC (.bl false))) esNx)
def q__law_tight_right_12 (p : Pg) : EvS := (esRt (evB (ivIs false) (evMk p 12 [(44, 2), (66, 3), (69, 4)] 0 (evF (mkI p 15) (eaC (evTup (eaC (evC (.int 2)) eaN)) (eaC (evU (getA p 14) (evV 3)) (eaC (evDN true) eaN)))) (eaC (evV 1) (eaC (evV 2) eaN)) eaN) (evC (.bl false))))
abbrev N__law_tight_right : List Str := [("_law_steps" : Str), ("_law_lines" : Str), ("_law_offers" : Str), ("_law_found" : Str), ("_law_none" : Str), ("_law_some" : Str), ("_law_cap" : Str)]
def e__law_tight_right (p : Pg) : EvS := (esSeq (esGc (q__law_tight_right_0 p)) (esSeq (esGc (q__law_tight_right_1 p)) (esSeq (esGc (q__law_tight_right_2 p)) (esSeq (esGc (q__law_tight_right_3 p)) (esSeq (esGc (q__law_tight_right_4 p)) (esSeq (esGc (q__law_tight_right_5 p)) (esSeq (esGc (q__law_tight_right_6 p)) (esSeq (esGc (q__law_tight_right_7 p)) (esSeq (esGc (q__law_tight_right_8 p)) (esSeq (esGc (q__law_tight_right_9 p)) (esSeq (esGc (q__law_tight_right_10 p)) (esSeq (esGc (q__law_tight_right_11 p)) (esGc (q__law_tight_right_12 p))))))))))))))
theorem b__law_tight_right (M : Mg T mg) (Mp : ∀ j, p.pat j = patOf j) (B : Bd T (Cz T P w mg base N__law_tight_right s__law_tight_right qual f cdv A outer s H E) p d) (Cd : CdOk T (Cz T P w mg base N__law_tight_right s__law_tight_right qual f cdv A outer s H E) d) : SSs T (Cz T P w mg base N__law_tight_right s__law_tight_right qual f cdv A outer s H E) (defBody s__law_tight_right) (e__law_tight_right p) :=
  (ss_cons (ss_gc (ss_set 0 B.nd (se_tup (sa_c (se_tup (sa_c (se_str (by decide +kernel)) (sa_c (se_str (by decide +kernel)) (sa_c se_int sa_n)))) (sa_c (se_tup (sa_c (se_str (by decide +kernel)) (sa_c (se_str (by decide +kernel)) (sa_c (se_str (by decide +kernel)) (sa_c se_int (sa_c se_int sa_n)))))) (sa_c (se_tup (sa_c (se_str (by decide +kernel)) (sa_c (se_str (by decide +kernel)) (sa_c (se_str (by decide +kernel)) sa_n)))) (sa_c (se_tup (sa_c (se_str (by decide +kernel)) (sa_c (se_str (by decide +kernel)) sa_n))) (sa_c (se_tup (sa_c (se_str (by decide +kernel)) (sa_c se_int sa_n))) sa_n)))))))) (ss_cons (ss_gc (ss_as (se_tup (sa_c (se_make 9 B rfl M.g_Program M.k_Program (sa_c se_int (sa_c se_int (sa_c (se_v 0) sa_n)))) (sa_c (se_dd false B (sp_c se_int se_int (sp_c se_int se_int sp_n))) sa_n))) (sg_tl B.K B.calm (sgs_c (sg_n 1 B.nd) (sgs_c (sg_n 2 B.nd) sgs_n))))) (ss_cons (ss_gc (ss_if (SW.st (sw_or (st_cmp (os_neD B.K B.u64) (se_call 70 B rfl M.g_lots M.k_lots (sa_c (se_v 1) (sa_c (se_v 2) sa_n))) (se_lst (sa_c (se_tup sa_n) (sa_c (se_tup (sa_c se_int sa_n)) (sa_c (se_tup (sa_c se_int sa_n)) (sa_c (se_tup (sa_c se_int (sa_c se_int sa_n))) sa_n)))))) (sw_or1 (st_cmp (os_neD B.K B.u64) (se_call 70 B rfl M.g_lots M.k_lots (sa_c (se_v 1) (sa_c (se_dd false B (sp_c se_int se_int (sp_c se_int se_int sp_n))) sa_n))) (se_lst (sa_c (se_tup sa_n) (sa_c (se_tup (sa_c se_int sa_n)) (sa_c (se_tup (sa_c se_int sa_n)) (sa_c (se_tup (sa_c se_int (sa_c se_int sa_n))) sa_n))))))))) (ss_one (ss_ret se_bl)) ss_nil)) (ss_cons (ss_gc (ss_if (st_cmp (os_neD B.K B.u64) (se_sl B.K (se_att 6 B (se_call 71 B rfl M.g_tightened M.k_tightened (sa_c (se_v 1) (sa_c (se_v 2) (sa_c (se_tup (sa_c se_int (sa_c se_int sa_n))) sa_n)))) M.nm_steps) (so_s se_int) (so_s se_int)) (se_tup (sa_c (se_tup (sa_c (se_str (by decide +kernel)) (sa_c (se_str (by decide +kernel)) (sa_c (se_str (by decide +kernel)) sa_n)))) (sa_c (se_tup (sa_c (se_str (by decide +kernel)) (sa_c (se_str (by decide +kernel)) sa_n))) sa_n)))) (ss_one (ss_ret se_bl)) ss_nil)) (ss_cons (ss_gc (ss_set 3 B.nd (se_callK 72 8 (Mp 8) B rfl M.g_tighten M.k_tighten (sa_c (se_v 1) (sa_c (se_v 2) sa_n)) sk_n))) (ss_cons (ss_gc (ss_if (SW.st (sw_or (st_cmp (os_neD B.K B.u64) (se_att 13 B (se_v 3) M.nm_lot) (se_tup (sa_c se_int sa_n))) (sw_or (st_cmp (os_neD B.K B.u64) (se_fT (cs_listK B (cs_list B.K)) rfl M.n_list bt_list (sa_c (se_att 15 B (se_v 3) M.nm_others) sa_n)) (se_lst (sa_c (se_tup sa_n) sa_n))) (sw_or1 (st_not (st_v (se_fB (cs_isi B) rfl M.n_isinstance bt_isinstance (sa_c (se_ix (is_ixK B (is_ix B.K)) (se_att 15 B (se_v 3) M.nm_others) (se_tup sa_n)) (sa_c (se_cl 13 rfl M.g_NoBound) sa_n))))))))) (ss_one (ss_ret se_bl)) ss_nil)) (ss_cons (ss_gc (ss_if (st_cmp (os_neD B.K B.u64) (se_lc B.calm B.nd (si_any B (se_tup (sa_c (se_v 2) (sa_c (se_dd false B (sp_c se_int se_int sp_n)) (sa_c (se_dd false B (sp_c se_int se_int (sp_c se_int se_int sp_n))) sa_n))))) (own := [("_law_some", 5)]) (blkOk_by (by kernel_rfl)) (fun _ _ _ _ _ => (sgo_n 5 B.blk.nd)) (fun _ _ _ _ _ => spt_nil) (fun _ _ _ _ _ => (se_callK 73 9 (Mp 9) B.blk rfl M.g_least_price M.k_least_price (sa_c (se_v 1) (sa_c (se_v 5) sa_n)) sk_n))) (se_lst (sa_c se_int (sa_c se_int (sa_c se_int sa_n))))) (ss_one (ss_ret se_bl)) ss_nil)) (ss_cons (ss_gc (ss_if (st_cmp (os_neD B.K B.u64) (se_lc B.calm B.nd (si_any B (se_tup (sa_c se_int (sa_c se_int (sa_c se_int (sa_c se_int sa_n)))))) (own := [("_law_cap", 6)]) (blkOk_by (by kernel_rfl)) (fun _ _ _ _ _ => (sgo_n 6 B.blk.nd)) (fun _ _ _ _ _ => spt_nil) (fun _ _ _ _ _ => (se_callK 73 10 (Mp 10) B.blk rfl M.g_least_price M.k_least_price (sa_c (se_v 1) (sa_c (se_v 2) sa_n)) (sk_c (se_v 6) sk_n)))) (se_lst (sa_c se_non (sa_c se_non (sa_c se_int (sa_c se_int sa_n)))))) (ss_one (ss_ret se_bl)) ss_nil)) (ss_cons (ss_gc (ss_if (SW.st (sw_or (st_cmp (os_neD B.K B.u64) (se_att 9 B (se_att 14 B (se_v 3) M.nm_bound) M.nm_number) se_int) (sw_or (st_not (st_v (se_meK (ks := [("limit" : Str)]) 12 [(66, 11), (69, 12)] (hjs_of Mp (by decide +kernel)) B (se_v 3) (sa_c (se_v 1) (sa_c (se_v 2) sa_n)) (sk_c se_int sk_n) M.nm_shows))) (sw_or1 (st_v (se_meK (ks := [("limit" : Str)]) 12 [(66, 11), (69, 12)] (hjs_of Mp (by decide +kernel)) B (se_v 3) (sa_c (se_v 1) (sa_c (se_v 2) sa_n)) (sk_c se_int sk_n) M.nm_shows)))))) (ss_one (ss_ret se_bl)) ss_nil)) (ss_cons (ss_gc (ss_set 4 B.nd (se_callK 72 5 (Mp 5) B rfl M.g_tighten M.k_tighten (sa_c (se_v 1) (sa_c (se_v 2) sa_n)) (sk_c se_int sk_n)))) (ss_cons (ss_gc (ss_if (SW.st (sw_or (st_not (st_v (se_fB (cs_isi B) rfl M.n_isinstance bt_isinstance (sa_c (se_v 4) (sa_c (se_cl 16 rfl M.g_NotTightened) sa_n))))) (sw_or (st_not (st_v (se_fB (cs_isi B) rfl M.n_isinstance bt_isinstance (sa_c (se_ix (is_ixK B (is_ix B.K)) (se_att 15 B (se_v 4) M.nm_others) (se_tup (sa_c se_int sa_n))) (sa_c (se_cl 14 rfl M.g_Over) sa_n))))) (sw_or1 (st_v (se_meK (ks := []) 12 [(44, 2), (66, 3), (69, 4)] (hjs_of Mp (by decide +kernel)) B (se_v 4) (sa_c (se_v 1) (sa_c (se_v 2) sa_n)) sk_n M.nm_shows)))))) (ss_one (ss_ret se_bl)) ss_nil)) (ss_cons (ss_gc (ss_if (SW.st (sw_or (st_cmp (os_isnot) (se_meK (ks := [("limit" : Str)]) 12 [(66, 11), (69, 12)] (hjs_of Mp (by decide +kernel)) B (se_v 4) (sa_c (se_v 1) (sa_c (se_v 2) sa_n)) (sk_c se_int sk_n) M.nm_shows) se_bl) (sw_or1 (st_not (st_v (se_meK (ks := [("limit" : Str)]) 12 [(66, 11), (69, 12)] (hjs_of Mp (by decide +kernel)) B (se_v 4) (sa_c (se_v 1) (sa_c (se_v 2) sa_n)) (sk_c se_int sk_n) M.nm_shows)))))) (ss_one (ss_ret se_bl)) ss_nil)) (ss_one (ss_gc (ss_ret (se_cmp (os_is) (se_meK (ks := []) 12 [(44, 2), (66, 3), (69, 4)] (hjs_of Mp (by decide +kernel)) B (se_make 15 B rfl M.g_Tightened M.k_Tightened (sa_c (se_tup (sa_c se_int sa_n)) (sa_c (se_att 14 B (se_v 3) M.nm_bound) (sa_c (se_dn true B) sa_n)))) (sa_c (se_v 1) (sa_c (se_v 2) sa_n)) sk_n M.nm_shows) se_bl))))))))))))))))

abbrev N_law : List Str := [("_law_script" : Str)]
def e_law (p : Pg) : EvS := (esRt (evAnd (evF (p.cl 90) eaN) (evAnd (evF (p.cl 91) eaN) (evF (ivIsi p) (eaC (evV 0) (eaC (evC (.ty 4)) eaN))))))
theorem b_law (M : Mg T mg) (Mp : ∀ j, p.pat j = patOf j) (B : Bd T (Cz T P w mg base N_law s_law qual f cdv A outer s H E) p d) (Cd : CdOk T (Cz T P w mg base N_law s_law qual f cdv A outer s H E) d) : SSs T (Cz T P w mg base N_law s_law qual f cdv A outer s H E) (defBody s_law) (e_law p) :=
  (ss_one (ss_ret (se_and (se_call0 90 B rfl M.g__law_meeting_right M.k__law_meeting_right) (se_and (se_call0 91 B rfl M.g__law_tight_right M.k__law_tight_right) (se_one (se_fB (cs_isi B) rfl M.n_isinstance bt_isinstance (sa_c (se_v 0) (sa_c (se_ty 4 rfl M.n_list bt_list) sa_n))))))))
end
def clOf (q : Pg) (f : Nat) : List IV → IHeap → Res IV := (cond (Nat.blt f 46) (cond (Nat.blt f 23) (cond (Nat.blt f 11) (cond (Nat.blt f 5) (cond (Nat.blt f 2) (cond (Nat.blt f 1) (evFn 1 1 (e__wall q)) (evFn 2 2 (e_BadProgram_init q))) (cond (Nat.blt f 3) (evFn 2 2 (e_BadPath_init q)) (cond (Nat.blt f 4) (evFn 1 1 (e_is_integer q)) (evFn 5 5 (e_fits q))))) (cond (Nat.blt f 8) (cond (Nat.blt f 6) (evFn 4 7 (e_is_step q)) (cond (Nat.blt f 7) (evFn 4 5 (e_Program_init q)) (fun _ _ => .bad))) (cond (Nat.blt f 9) (evFn 1 1 (e_Program_width q)) (cond (Nat.blt f 10) (evFn 1 1 (e_Program_many q)) (evFn 1 1 (e_Program_steps q)))))) (cond (Nat.blt f 17) (cond (Nat.blt f 14) (cond (Nat.blt f 12) (evFn 2 2 (e_Program_eq q)) (cond (Nat.blt f 13) (evFn 1 1 (e_Program_len q)) (evFn 1 1 (e_Program_keeps q)))) (cond (Nat.blt f 15) (evFn 1 1 (e_check_program q)) (cond (Nat.blt f 16) (evFn 1 1 (e_size_of q)) (evFn 2 2 (e_is_whole q))))) (cond (Nat.blt f 20) (cond (Nat.blt f 18) (evFn 2 2 (e_fresh q)) (cond (Nat.blt f 19) (evFn 3 8 (e_part q)) (evFn 4 4 (e_joined q)))) (cond (Nat.blt f 21) (evFn 2 8 (e_shelved q)) (cond (Nat.blt f 22) (evFn 4 6 (e_made q)) (evFn 4 6 (e_act q))))))) (cond (Nat.blt f 34) (cond (Nat.blt f 28) (cond (Nat.blt f 25) (cond (Nat.blt f 24) (evFn 3 11 (e_settled q)) (evFn 3 3 (e_turns q))) (cond (Nat.blt f 26) (evFn 1 1 (e_start_of q)) (cond (Nat.blt f 27) (evFn 2 9 (e_after q)) (evFn 1 10 (e_waste_of q))))) (cond (Nat.blt f 31) (cond (Nat.blt f 29) (evFn 2 2 (e_is_clear q)) (cond (Nat.blt f 30) (evFn 3 5 (e_later_of q)) (evFn 2 7 (e_followed q)))) (cond (Nat.blt f 32) (evFn 2 4 (e_stands q)) (cond (Nat.blt f 33) (evFn 2 2 (e_Way_init q)) (evFn 2 3 (e_Way_end q)))))) (cond (Nat.blt f 40) (cond (Nat.blt f 37) (cond (Nat.blt f 35) (evFn 2 2 (e_walked q)) (cond (Nat.blt f 36) (evFn 3 7 (e_are_heights q)) (evFn 4 5 (e_AtMost_init q)))) (cond (Nat.blt f 38) (evFn 2 2 (e_AtMost_eq q)) (cond (Nat.blt f 39) (evFn 2 3 (e_AtMost_shows q)) (evFn 3 3 (e_NoBound_init q))))) (cond (Nat.blt f 43) (cond (Nat.blt f 41) (evFn 2 2 (e_NoBound_eq q)) (cond (Nat.blt f 42) (evFn 2 5 (e_NoBound_shows q)) (evFn 2 2 (e_Over_init q)))) (cond (Nat.blt f 44) (evFn 2 2 (e_Over_eq q)) (cond (Nat.blt f 45) (evFn 3 4 (e_Over_shows q)) (evFn 1 1 (e_check_limit q)))))))) (cond (Nat.blt f 69) (cond (Nat.blt f 57) (cond (Nat.blt f 51) (cond (Nat.blt f 48) (cond (Nat.blt f 47) (evFn 1 8 (e_explored q)) (evFn 2 3 (e_road q))) (cond (Nat.blt f 49) (evFn 1 2 (e_path_of q)) (cond (Nat.blt f 50) (evFn 4 9 (e_road_round q)) (evFn 2 6 (e_ring_of q))))) (cond (Nat.blt f 54) (cond (Nat.blt f 52) (evFn 2 11 (e_raised q)) (cond (Nat.blt f 53) (evFn 3 6 (e_top_road q)) (evFn 1 8 (e_bound_of q)))) (cond (Nat.blt f 55) (evFn 1 1 (e_check_any q)) (cond (Nat.blt f 56) (evFn 2 2 (e_is_spot q)) (evFn 2 4 (e_check_offers q)))))) (cond (Nat.blt f 63) (cond (Nat.blt f 60) (cond (Nat.blt f 58) (evFn 3 3 (e_check_all q)) (cond (Nat.blt f 59) (evFn 2 3 (e_price_of q)) (evFn 1 4 (e_lots_of q)))) (cond (Nat.blt f 61) (evFn 2 5 (e_with_lot q)) (cond (Nat.blt f 62) (evFn 3 4 (e_answer_to q)) (evFn 4 5 (e_is_against_lot q))))) (cond (Nat.blt f 66) (cond (Nat.blt f 64) (evFn 4 5 (e_are_against_lots q)) (cond (Nat.blt f 65) (evFn 4 4 (e_Tightened_init q)) (evFn 2 2 (e_Tightened_eq q)))) (cond (Nat.blt f 67) (fun _ _ => .bad) (cond (Nat.blt f 68) (evFn 2 2 (e_NotTightened_init q)) (evFn 2 2 (e_NotTightened_eq q))))))) (cond (Nat.blt f 81) (cond (Nat.blt f 75) (cond (Nat.blt f 72) (cond (Nat.blt f 70) (fun _ _ => .bad) (cond (Nat.blt f 71) (evFn 2 2 (e_lots q)) (evFn 3 4 (e_tightened q)))) (cond (Nat.blt f 73) (fun _ _ => .bad) (cond (Nat.blt f 74) (fun _ _ => .bad) (evFn 2 2 (e_Meets_init q))))) (cond (Nat.blt f 78) (cond (Nat.blt f 76) (evFn 2 2 (e_Meets_eq q)) (cond (Nat.blt f 77) (evFn 6 7 (e_Meets_shows q)) (evFn 2 2 (e_Apart_init q)))) (cond (Nat.blt f 79) (evFn 2 2 (e_Apart_eq q)) (cond (Nat.blt f 80) (evFn 6 10 (e_Apart_shows q)) (evFn 2 2 (e_check_place q)))))) (cond (Nat.blt f 87) (cond (Nat.blt f 84) (cond (Nat.blt f 82) (evFn 1 1 (e_check_thing q)) (cond (Nat.blt f 83) (evFn 2 2 (e_is_register q)) (evFn 5 5 (e_check_meeting q)))) (cond (Nat.blt f 85) (evFn 4 7 (e_does_meet q)) (cond (Nat.blt f 86) (evFn 4 8 (e_met q)) (evFn 5 5 (e_meet q))))) (cond (Nat.blt f 90) (cond (Nat.blt f 88) (evFn 5 5 (e_can_meet q)) (cond (Nat.blt f 89) (evFn 3 11 (e_pairs_that_meet q)) (evFn 0 1 (e__law_cuts q)))) (cond (Nat.blt f 91) (evGc (evFn 0 5 (e__law_meeting_right q))) (cond (Nat.blt f 92) (evGc (evFn 0 7 (e__law_tight_right q))) (evFn 1 1 (e_law q)))))))))
def ckOf (q : Pg) (f : Nat) : List IV → List IV → IHeap → Res IV := (cond (Nat.blt f 6) (cond (Nat.blt f 3) (cond (Nat.blt f 1) (evFnK 2 3 (e_AtMost_shows q) (fun xs ys => xs) 2) (cond (Nat.blt f 2) (evFnK 2 5 (e_NoBound_shows q) (fun xs ys => xs) 2) (evFnK 3 4 (e_Over_shows q) (fun xs ys => xs) 3))) (cond (Nat.blt f 4) (evFnK 4 8 (e_Tightened_shows q) (fun xs ys => xs ++ [.non]) 3) (cond (Nat.blt f 5) (evFnK 4 4 (e_NotTightened_shows q) (fun xs ys => xs ++ [.non]) 3) (evFnK 3 8 (e_tighten q) (fun xs ys => xs ++ ys) 2)))) (cond (Nat.blt f 9) (cond (Nat.blt f 7) (evFnK 6 7 (e_Meets_shows q) (fun xs ys => xs) 6) (cond (Nat.blt f 8) (evFnK 6 10 (e_Apart_shows q) (fun xs ys => xs) 6) (evFnK 3 8 (e_tighten q) (fun xs ys => xs ++ [.non]) 2))) (cond (Nat.blt f 11) (cond (Nat.blt f 10) (evFnK 3 4 (e_least_price q) (fun xs ys => xs ++ [.non]) 2) (evFnK 3 4 (e_least_price q) (fun xs ys => xs ++ ys) 2)) (cond (Nat.blt f 12) (evFnK 4 8 (e_Tightened_shows q) (fun xs ys => xs ++ ys) 3) (evFnK 4 4 (e_NotTightened_shows q) (fun xs ys => xs ++ ys) 3)))))
def pgOf (cl : Nat → List IV → IHeap → Res IV) (ck : Nat → List IV → List IV → IHeap → Res IV) : Pg where
  cl := cl
  pat := patOf
  ck := ck
  att := attOf attT
  ini := look1 iniT
  isi := look2 isiT
  kio := elemN kioT
  nf := fun _ _ => false
  exm := look2 exmT
  kd := fun k => match look1 kdT k with
    | some l => l
    | none => []
def pgN : Nat → Pg
  | 0 => pgOf (fun _ _ _ => .bad) (fun _ _ _ _ => .bad)
  | d + 1 => pgOf (clOf (pgN d)) (ckOf (pgN d))
section
variable {P : Program} {w : World} {h : Heap} {K : PySem.W.Frag} {mg : Str → Option Value} {base : Heap} {d : Nat}
theorem exG (c : HD.Says w h K) : chkG (mkT K P w) attT iniT isiT kioT exmT = true := (He.ba (He.ba c.more).1).1
theorem exD (c : HD.Says w h K) : kdC K = true := (He.ba (He.ba c.more).1).2
theorem exC (c : HD.Says w h K) : (cfL.all fun q => cfnB K (caOf K q.1) q.2.1 (faOf K q.2.2)) = true := (He.ba (He.ba c.more).2).2
theorem tupS_NAMES (c : HD.Says w h K) : tupSB K "NAMES" l_NAMES = true := (He.ba (He.ba (He.ba c.more).2).1).1
theorem tupS_THINGS (c : HD.Says w h K) : tupSB K "THINGS" l_THINGS = true := (He.ba (He.ba (He.ba c.more).2).1).2
theorem mg_of (X : K.In h) (Gn : h.Ns mainGlobals mg) (c : HD.Says w h K) : Mg (mkT K P w) mg where
  g_Apart := He.glo_ok X Gn (c.fct 0)
  k_Apart := He.keep_ok (x := "Apart") (c.fct 1)
  g_AtMost := He.glo_ok X Gn (c.fct 2)
  k_AtMost := He.keep_ok (x := "AtMost") (c.fct 3)
  g_BadPath := He.glo_ok X Gn (c.fct 4)
  k_BadPath := He.keep_ok (x := "BadPath") (c.fct 5)
  c_MAX_OFFERS := glv_int X Gn (c.fct 6)
  c_MAX_PRICE := glv_int X Gn (c.fct 7)
  c_MAX_STANDS := glv_int X Gn (c.fct 8)
  c_MAX_STEPS := glv_int X Gn (c.fct 9)
  c_MAX_WIDTH := glv_int X Gn (c.fct 10)
  g_Meets := He.glo_ok X Gn (c.fct 11)
  k_Meets := He.keep_ok (x := "Meets") (c.fct 12)
  c_NAMES := glv_tup X Gn (c.fct 13) (tupS_NAMES c)
  i_NAMES := gli_tup X Gn (c.fct 13) (tupS_NAMES c)
  g_NoBound := He.glo_ok X Gn (c.fct 14)
  k_NoBound := He.keep_ok (x := "NoBound") (c.fct 15)
  g_NotTightened := He.glo_ok X Gn (c.fct 16)
  k_NotTightened := He.keep_ok (x := "NotTightened") (c.fct 17)
  g_Over := He.glo_ok X Gn (c.fct 18)
  k_Over := He.keep_ok (x := "Over") (c.fct 19)
  g_Program := He.glo_ok X Gn (c.fct 20)
  k_Program := He.keep_ok (x := "Program") (c.fct 21)
  c_SHAPES := glv_kd X Gn (c.fct 22) rfl
  c_THINGS := glv_tup X Gn (c.fct 23) (tupS_THINGS c)
  i_THINGS := gli_tup X Gn (c.fct 23) (tupS_THINGS c)
  c_TIGHT := glv_kd X Gn (c.fct 24) rfl
  g_Tightened := He.glo_ok X Gn (c.fct 25)
  k_Tightened := He.keep_ok (x := "Tightened") (c.fct 26)
  g_Way := He.glo_ok X Gn (c.fct 27)
  k_Way := He.keep_ok (x := "Way") (c.fct 28)
  g__law_cuts := He.glo_ok X Gn (c.fct 29)
  k__law_cuts := He.keep_ok (x := "_law_cuts") (c.fct 30)
  g__law_meeting_right := He.glo_ok X Gn (c.fct 31)
  k__law_meeting_right := He.keep_ok (x := "_law_meeting_right") (c.fct 32)
  g__law_tight_right := He.glo_ok X Gn (c.fct 33)
  k__law_tight_right := He.keep_ok (x := "_law_tight_right") (c.fct 34)
  g__wall := He.glo_ok X Gn (c.fct 35)
  k__wall := He.keep_ok (x := "_wall") (c.fct 36)
  g_act := He.glo_ok X Gn (c.fct 37)
  k_act := He.keep_ok (x := "act") (c.fct 38)
  g_after := He.glo_ok X Gn (c.fct 39)
  k_after := He.keep_ok (x := "after") (c.fct 40)
  n_all := He.free_ok X Gn (c.fct 41)
  g_answer_to := He.glo_ok X Gn (c.fct 42)
  k_answer_to := He.keep_ok (x := "answer_to") (c.fct 43)
  n_any := He.free_ok X Gn (c.fct 44)
  g_are_against_lots := He.glo_ok X Gn (c.fct 45)
  k_are_against_lots := He.keep_ok (x := "are_against_lots") (c.fct 46)
  g_are_heights := He.glo_ok X Gn (c.fct 47)
  k_are_heights := He.keep_ok (x := "are_heights") (c.fct 48)
  n_bool := He.free_ok X Gn (c.fct 49)
  g_bound_of := He.glo_ok X Gn (c.fct 50)
  k_bound_of := He.keep_ok (x := "bound_of") (c.fct 51)
  g_can_meet := He.glo_ok X Gn (c.fct 52)
  k_can_meet := He.keep_ok (x := "can_meet") (c.fct 53)
  g_check_all := He.glo_ok X Gn (c.fct 54)
  k_check_all := He.keep_ok (x := "check_all") (c.fct 55)
  g_check_any := He.glo_ok X Gn (c.fct 56)
  k_check_any := He.keep_ok (x := "check_any") (c.fct 57)
  g_check_limit := He.glo_ok X Gn (c.fct 58)
  k_check_limit := He.keep_ok (x := "check_limit") (c.fct 59)
  g_check_meeting := He.glo_ok X Gn (c.fct 60)
  k_check_meeting := He.keep_ok (x := "check_meeting") (c.fct 61)
  g_check_offers := He.glo_ok X Gn (c.fct 62)
  k_check_offers := He.keep_ok (x := "check_offers") (c.fct 63)
  g_check_place := He.glo_ok X Gn (c.fct 64)
  k_check_place := He.keep_ok (x := "check_place") (c.fct 65)
  g_check_program := He.glo_ok X Gn (c.fct 66)
  k_check_program := He.keep_ok (x := "check_program") (c.fct 67)
  g_check_thing := He.glo_ok X Gn (c.fct 68)
  k_check_thing := He.keep_ok (x := "check_thing") (c.fct 69)
  n_dict := He.free_ok X Gn (c.fct 70)
  g_does_meet := He.glo_ok X Gn (c.fct 71)
  k_does_meet := He.keep_ok (x := "does_meet") (c.fct 72)
  n_enumerate := He.free_ok X Gn (c.fct 73)
  g_explored := He.glo_ok X Gn (c.fct 74)
  k_explored := He.keep_ok (x := "explored") (c.fct 75)
  g_fits := He.glo_ok X Gn (c.fct 76)
  k_fits := He.keep_ok (x := "fits") (c.fct 77)
  g_followed := He.glo_ok X Gn (c.fct 78)
  k_followed := He.keep_ok (x := "followed") (c.fct 79)
  g_fresh := He.glo_ok X Gn (c.fct 80)
  k_fresh := He.keep_ok (x := "fresh") (c.fct 81)
  n_int := He.free_ok X Gn (c.fct 82)
  g_is_against_lot := He.glo_ok X Gn (c.fct 83)
  k_is_against_lot := He.keep_ok (x := "is_against_lot") (c.fct 84)
  g_is_clear := He.glo_ok X Gn (c.fct 85)
  k_is_clear := He.keep_ok (x := "is_clear") (c.fct 86)
  g_is_integer := He.glo_ok X Gn (c.fct 87)
  k_is_integer := He.keep_ok (x := "is_integer") (c.fct 88)
  g_is_register := He.glo_ok X Gn (c.fct 89)
  k_is_register := He.keep_ok (x := "is_register") (c.fct 90)
  g_is_spot := He.glo_ok X Gn (c.fct 91)
  k_is_spot := He.keep_ok (x := "is_spot") (c.fct 92)
  g_is_step := He.glo_ok X Gn (c.fct 93)
  k_is_step := He.keep_ok (x := "is_step") (c.fct 94)
  g_is_whole := He.glo_ok X Gn (c.fct 95)
  k_is_whole := He.keep_ok (x := "is_whole") (c.fct 96)
  n_isinstance := He.free_ok X Gn (c.fct 97)
  g_joined := He.glo_ok X Gn (c.fct 98)
  k_joined := He.keep_ok (x := "joined") (c.fct 99)
  g_later_of := He.glo_ok X Gn (c.fct 100)
  k_later_of := He.keep_ok (x := "later_of") (c.fct 101)
  g_least_price := He.glo_ok X Gn (c.fct 102)
  k_least_price := He.keep_ok (x := "least_price") (c.fct 103)
  n_len := He.free_ok X Gn (c.fct 104)
  n_list := He.free_ok X Gn (c.fct 105)
  g_lots := He.glo_ok X Gn (c.fct 106)
  k_lots := He.keep_ok (x := "lots") (c.fct 107)
  g_lots_of := He.glo_ok X Gn (c.fct 108)
  k_lots_of := He.keep_ok (x := "lots_of") (c.fct 109)
  g_made := He.glo_ok X Gn (c.fct 110)
  k_made := He.keep_ok (x := "made") (c.fct 111)
  n_max := He.free_ok X Gn (c.fct 112)
  g_meet := He.glo_ok X Gn (c.fct 113)
  k_meet := He.keep_ok (x := "meet") (c.fct 114)
  g_met := He.glo_ok X Gn (c.fct 115)
  k_met := He.keep_ok (x := "met") (c.fct 116)
  n_min := He.free_ok X Gn (c.fct 117)
  g_pairs_that_meet := He.glo_ok X Gn (c.fct 118)
  k_pairs_that_meet := He.keep_ok (x := "pairs_that_meet") (c.fct 119)
  g_part := He.glo_ok X Gn (c.fct 120)
  k_part := He.keep_ok (x := "part") (c.fct 121)
  g_path_of := He.glo_ok X Gn (c.fct 122)
  k_path_of := He.keep_ok (x := "path_of") (c.fct 123)
  g_price_of := He.glo_ok X Gn (c.fct 124)
  k_price_of := He.keep_ok (x := "price_of") (c.fct 125)
  g_raised := He.glo_ok X Gn (c.fct 126)
  k_raised := He.keep_ok (x := "raised") (c.fct 127)
  n_range := He.free_ok X Gn (c.fct 128)
  g_ring_of := He.glo_ok X Gn (c.fct 129)
  k_ring_of := He.keep_ok (x := "ring_of") (c.fct 130)
  g_road := He.glo_ok X Gn (c.fct 131)
  k_road := He.keep_ok (x := "road") (c.fct 132)
  g_road_round := He.glo_ok X Gn (c.fct 133)
  k_road_round := He.keep_ok (x := "road_round") (c.fct 134)
  g_settled := He.glo_ok X Gn (c.fct 135)
  k_settled := He.keep_ok (x := "settled") (c.fct 136)
  g_shelved := He.glo_ok X Gn (c.fct 137)
  k_shelved := He.keep_ok (x := "shelved") (c.fct 138)
  g_size_of := He.glo_ok X Gn (c.fct 139)
  k_size_of := He.keep_ok (x := "size_of") (c.fct 140)
  n_sorted := He.free_ok X Gn (c.fct 141)
  g_stands := He.glo_ok X Gn (c.fct 142)
  k_stands := He.keep_ok (x := "stands") (c.fct 143)
  g_start_of := He.glo_ok X Gn (c.fct 144)
  k_start_of := He.keep_ok (x := "start_of") (c.fct 145)
  n_str := He.free_ok X Gn (c.fct 146)
  n_sum := He.free_ok X Gn (c.fct 147)
  g_tighten := He.glo_ok X Gn (c.fct 148)
  k_tighten := He.keep_ok (x := "tighten") (c.fct 149)
  g_tightened := He.glo_ok X Gn (c.fct 150)
  k_tightened := He.keep_ok (x := "tightened") (c.fct 151)
  g_top_road := He.glo_ok X Gn (c.fct 152)
  k_top_road := He.keep_ok (x := "top_road") (c.fct 153)
  n_tuple := He.free_ok X Gn (c.fct 154)
  g_turns := He.glo_ok X Gn (c.fct 155)
  k_turns := He.keep_ok (x := "turns") (c.fct 156)
  g_walked := He.glo_ok X Gn (c.fct 157)
  k_walked := He.keep_ok (x := "walked") (c.fct 158)
  g_waste_of := He.glo_ok X Gn (c.fct 159)
  k_waste_of := He.keep_ok (x := "waste_of") (c.fct 160)
  g_with_lot := He.glo_ok X Gn (c.fct 161)
  k_with_lot := He.keep_ok (x := "with_lot") (c.fct 162)
  n_zip := He.free_ok X Gn (c.fct 163)
  cf_Way_init := cfnB_ok (List.all_eq_true.mp (exC c) (11, "__init__", 32) (List.mem_of_getElem? (i := 0) rfl))
  nm_part := rfl
  nm_index := rfl
  nm_wide := rfl
  nm_count := rfl
  nm_rows := rfl
  nm_many := rfl
  nm_steps := rfl
  nm_width := rfl
  nm_path := rfl
  nm_number := rfl
  nm_heights := rfl
  nm_ring := rfl
  nm_shows := rfl
  nm_lot := rfl
  nm_bound := rfl
  nm_others := rfl
  nm_stands := rfl
  nm___eq__ := rfl
  nm___len__ := rfl
  nm_keeps := rfl
  nm_end := rfl
theorem tab_of (c : HD.Says w h K) : ∀ q ∈ kdT, ∃ es n, KDict K w (kdOf K q.1) es n := by
  intro q hq
  unfold kdT at hq
  simp only [List.mem_cons, List.not_mem_nil, or_false] at hq
  rcases hq with rfl | rfl
  · exact c.tb 0
  · exact c.tb 1
theorem kd_ok (c : HD.Says w h K) : ∀ k, (pgN d).kd k ≠ [] → KdOk K w (kdOf K k) ((pgN d).kd k) := by
  have key : ∀ k l, look1 kdT k = some l → KdOk K w (kdOf K k) l := look1_ok (R := fun k l => KdOk K w (kdOf K k) l) fun q hq => kdB_ok (List.all_eq_true.mp (exD c) q hq) (tab_of c q hq)
  intro k hk
  have e : (pgN d).kd k = match look1 kdT k with
    | some l => l
    | none => [] := by cases d <;> rfl
  rw [e] at hk ⊢
  split at hk
  · rename_i l hl
    exact key k l hl
  · exact absurd rfl hk
theorem glo_ok (c : HD.Says w h K) : Glo (mkT K P w) P w mg base (pgN d) := by
  cases d <;> exact glo_of (exG c) rfl rfl rfl rfl rfl rfl (kd_ok c) rfl rfl
/-- what is known at the depth d -/
structure At (K : PySem.W.Frag) (P : Program) (w : World) (mg : Str → Option Value) (base : Heap) (d : Nat) : Prop where
  fn : ∀ f, FnS (mkT K P w) P w mg base (5 * d) ((mkT K P w).fa f) ((pgN d).cl f)
  fk : ∀ j, FnK (mkT K P w) P w mg base (5 * d) ((mkT K P w).fa ((pgN d).pat j).1) ((pgN d).pat j).2 ((pgN d).ck j)
theorem pat_N : ∀ d j, (pgN d).pat j = patOf j
  | 0, _ => rfl
  | _ + 1, _ => rfl
theorem sc__wall : FnScope N__wall [("k" : Str)] (defScope s__wall) := ⟨rfl, rfl, rfl, by decide +kernel, rfl, by decide +kernel, by decide +kernel⟩
theorem ok__wall (c : HD.Says w h K) (M : Mg (mkT K P w) mg) (tb : ∀ p ∈ lamD, LamX.TabB base mg (He.cT K p).1 (He.cT K p).2) (I : At K P w mg base d) {fd : FuncData} (Fd : FunD K d__wall.name d__wall.qual d__wall.params d__wall.body d__wall.scope (d__wall.dvs K) (d__wall.kws K) (d__wall.at_ K) fd) : FnOk P w K mg base (L2.CX P w) (5 * d + 5) (d__wall.at_ K) fd [("k" : Str)] (fun vs H Q E => vs.length = 1 ∧ spR (mkT K P w) (evFn 1 1 (e__wall (pgN d))) vs H Q E) :=
  fn_okD (T := mkT K P w) (k := 5 * d + 4) Fd sc__wall fun cdv A outer s H E hc lk hcd r => b__wall M (pat_N d) ((glo_ok c).bd I.fk I.fn sc__wall.nd r) ⟨kds_of hc, r⟩
theorem bd__wall {fd : FuncData} (Fd : FunD K d__wall.name d__wall.qual d__wall.params d__wall.body d__wall.scope (d__wall.dvs K) (d__wall.kws K) (d__wall.at_ K) fd) : Binds K fd [("k" : Str)] [] := FunD.bindsN Fd fun _ _ _ _ _ _ us hl => match us, hl with
  | [_], _ => rfl
theorem fs__wall (c : HD.Says w h K) (M : Mg (mkT K P w) mg) (tb : ∀ p ∈ lamD, LamX.TabB base mg (He.cT K p).1 (He.cT K p).2) (I : At K P w mg base d) : FnS (mkT K P w) P w mg base (5 * (d + 1)) (d__wall.at_ K) (evFn 1 1 (e__wall (pgN d))) := by
  obtain ⟨fd, Fd⟩ := c.dff 0 (d := d__wall)
  exact fn_raw (T := mkT K P w) (ok__wall c M tb I Fd) (bd__wall Fd)
theorem sc_BadProgram_init : FnScope N_BadProgram_init [("self" : Str), ("part" : Str)] (defScope s_BadProgram_init) := ⟨rfl, rfl, rfl, by decide +kernel, rfl, by decide +kernel, by decide +kernel⟩
theorem ok_BadProgram_init (c : HD.Says w h K) (M : Mg (mkT K P w) mg) (tb : ∀ p ∈ lamD, LamX.TabB base mg (He.cT K p).1 (He.cT K p).2) (I : At K P w mg base d) {fd : FuncData} (Fd : FunD K d_BadProgram_init.name d_BadProgram_init.qual d_BadProgram_init.params d_BadProgram_init.body d_BadProgram_init.scope (d_BadProgram_init.dvs K) (d_BadProgram_init.kws K) (d_BadProgram_init.at_ K) fd) : FnOk P w K mg base (L2.CX P w) (5 * d + 5) (d_BadProgram_init.at_ K) fd [("self" : Str), ("part" : Str)] (fun vs H Q E => vs.length = 2 ∧ spR (mkT K P w) (evFn 2 2 (e_BadProgram_init (pgN d))) vs H Q E) :=
  fn_okD (T := mkT K P w) (k := 5 * d + 4) Fd sc_BadProgram_init fun cdv A outer s H E hc lk hcd r => b_BadProgram_init M (pat_N d) ((glo_ok c).bd I.fk I.fn sc_BadProgram_init.nd r) ⟨kds_of hc, r⟩
theorem bd_BadProgram_init {fd : FuncData} (Fd : FunD K d_BadProgram_init.name d_BadProgram_init.qual d_BadProgram_init.params d_BadProgram_init.body d_BadProgram_init.scope (d_BadProgram_init.dvs K) (d_BadProgram_init.kws K) (d_BadProgram_init.at_ K) fd) : Binds K fd [("self" : Str), ("part" : Str)] [] := FunD.bindsN Fd fun _ _ _ _ _ _ us hl => match us, hl with
  | [_, _], _ => rfl
theorem fs_BadProgram_init (c : HD.Says w h K) (M : Mg (mkT K P w) mg) (tb : ∀ p ∈ lamD, LamX.TabB base mg (He.cT K p).1 (He.cT K p).2) (I : At K P w mg base d) : FnS (mkT K P w) P w mg base (5 * (d + 1)) (d_BadProgram_init.at_ K) (evFn 2 2 (e_BadProgram_init (pgN d))) := by
  obtain ⟨fd, Fd⟩ := c.dff 1 (d := d_BadProgram_init)
  exact fn_raw (T := mkT K P w) (ok_BadProgram_init c M tb I Fd) (bd_BadProgram_init Fd)
theorem sc_BadPath_init : FnScope N_BadPath_init [("self" : Str), ("index" : Str)] (defScope s_BadPath_init) := ⟨rfl, rfl, rfl, by decide +kernel, rfl, by decide +kernel, by decide +kernel⟩
theorem ok_BadPath_init (c : HD.Says w h K) (M : Mg (mkT K P w) mg) (tb : ∀ p ∈ lamD, LamX.TabB base mg (He.cT K p).1 (He.cT K p).2) (I : At K P w mg base d) {fd : FuncData} (Fd : FunD K d_BadPath_init.name d_BadPath_init.qual d_BadPath_init.params d_BadPath_init.body d_BadPath_init.scope (d_BadPath_init.dvs K) (d_BadPath_init.kws K) (d_BadPath_init.at_ K) fd) : FnOk P w K mg base (L2.CX P w) (5 * d + 5) (d_BadPath_init.at_ K) fd [("self" : Str), ("index" : Str)] (fun vs H Q E => vs.length = 2 ∧ spR (mkT K P w) (evFn 2 2 (e_BadPath_init (pgN d))) vs H Q E) :=
  fn_okD (T := mkT K P w) (k := 5 * d + 4) Fd sc_BadPath_init fun cdv A outer s H E hc lk hcd r => b_BadPath_init M (pat_N d) ((glo_ok c).bd I.fk I.fn sc_BadPath_init.nd r) ⟨kds_of hc, r⟩
theorem bd_BadPath_init {fd : FuncData} (Fd : FunD K d_BadPath_init.name d_BadPath_init.qual d_BadPath_init.params d_BadPath_init.body d_BadPath_init.scope (d_BadPath_init.dvs K) (d_BadPath_init.kws K) (d_BadPath_init.at_ K) fd) : Binds K fd [("self" : Str), ("index" : Str)] [] := FunD.bindsN Fd fun _ _ _ _ _ _ us hl => match us, hl with
  | [_, _], _ => rfl
theorem fs_BadPath_init (c : HD.Says w h K) (M : Mg (mkT K P w) mg) (tb : ∀ p ∈ lamD, LamX.TabB base mg (He.cT K p).1 (He.cT K p).2) (I : At K P w mg base d) : FnS (mkT K P w) P w mg base (5 * (d + 1)) (d_BadPath_init.at_ K) (evFn 2 2 (e_BadPath_init (pgN d))) := by
  obtain ⟨fd, Fd⟩ := c.dff 2 (d := d_BadPath_init)
  exact fn_raw (T := mkT K P w) (ok_BadPath_init c M tb I Fd) (bd_BadPath_init Fd)
theorem sc_is_integer : FnScope N_is_integer [("value" : Str)] (defScope s_is_integer) := ⟨rfl, rfl, rfl, by decide +kernel, rfl, by decide +kernel, by decide +kernel⟩
theorem ok_is_integer (c : HD.Says w h K) (M : Mg (mkT K P w) mg) (tb : ∀ p ∈ lamD, LamX.TabB base mg (He.cT K p).1 (He.cT K p).2) (I : At K P w mg base d) {fd : FuncData} (Fd : FunD K d_is_integer.name d_is_integer.qual d_is_integer.params d_is_integer.body d_is_integer.scope (d_is_integer.dvs K) (d_is_integer.kws K) (d_is_integer.at_ K) fd) : FnOk P w K mg base (L2.CX P w) (5 * d + 5) (d_is_integer.at_ K) fd [("value" : Str)] (fun vs H Q E => vs.length = 1 ∧ spR (mkT K P w) (evFn 1 1 (e_is_integer (pgN d))) vs H Q E) :=
  fn_okD (T := mkT K P w) (k := 5 * d + 4) Fd sc_is_integer fun cdv A outer s H E hc lk hcd r => b_is_integer M (pat_N d) ((glo_ok c).bd I.fk I.fn sc_is_integer.nd r) ⟨kds_of hc, r⟩
theorem bd_is_integer {fd : FuncData} (Fd : FunD K d_is_integer.name d_is_integer.qual d_is_integer.params d_is_integer.body d_is_integer.scope (d_is_integer.dvs K) (d_is_integer.kws K) (d_is_integer.at_ K) fd) : Binds K fd [("value" : Str)] [] := FunD.bindsN Fd fun _ _ _ _ _ _ us hl => match us, hl with
  | [_], _ => rfl
theorem fs_is_integer (c : HD.Says w h K) (M : Mg (mkT K P w) mg) (tb : ∀ p ∈ lamD, LamX.TabB base mg (He.cT K p).1 (He.cT K p).2) (I : At K P w mg base d) : FnS (mkT K P w) P w mg base (5 * (d + 1)) (d_is_integer.at_ K) (evFn 1 1 (e_is_integer (pgN d))) := by
  obtain ⟨fd, Fd⟩ := c.dff 3 (d := d_is_integer)
  exact fn_raw (T := mkT K P w) (ok_is_integer c M tb I Fd) (bd_is_integer Fd)
theorem sc_fits : FnScope N_fits [("sign" : Str), ("value" : Str), ("width" : Str), ("many" : Str), ("total" : Str)] (defScope s_fits) := ⟨rfl, rfl, rfl, by decide +kernel, rfl, by decide +kernel, by decide +kernel⟩
theorem ok_fits (c : HD.Says w h K) (M : Mg (mkT K P w) mg) (tb : ∀ p ∈ lamD, LamX.TabB base mg (He.cT K p).1 (He.cT K p).2) (I : At K P w mg base d) {fd : FuncData} (Fd : FunD K d_fits.name d_fits.qual d_fits.params d_fits.body d_fits.scope (d_fits.dvs K) (d_fits.kws K) (d_fits.at_ K) fd) : FnOk P w K mg base (L2.CX P w) (5 * d + 5) (d_fits.at_ K) fd [("sign" : Str), ("value" : Str), ("width" : Str), ("many" : Str), ("total" : Str)] (fun vs H Q E => vs.length = 5 ∧ spR (mkT K P w) (evFn 5 5 (e_fits (pgN d))) vs H Q E) :=
  fn_okD (T := mkT K P w) (k := 5 * d + 4) Fd sc_fits fun cdv A outer s H E hc lk hcd r => b_fits M (pat_N d) ((glo_ok c).bd I.fk I.fn sc_fits.nd r) ⟨kds_of hc, r⟩
theorem bd_fits {fd : FuncData} (Fd : FunD K d_fits.name d_fits.qual d_fits.params d_fits.body d_fits.scope (d_fits.dvs K) (d_fits.kws K) (d_fits.at_ K) fd) : Binds K fd [("sign" : Str), ("value" : Str), ("width" : Str), ("many" : Str), ("total" : Str)] [] := FunD.bindsN Fd fun _ _ _ _ _ _ us hl => match us, hl with
  | [_, _, _, _, _], _ => rfl
theorem fs_fits (c : HD.Says w h K) (M : Mg (mkT K P w) mg) (tb : ∀ p ∈ lamD, LamX.TabB base mg (He.cT K p).1 (He.cT K p).2) (I : At K P w mg base d) : FnS (mkT K P w) P w mg base (5 * (d + 1)) (d_fits.at_ K) (evFn 5 5 (e_fits (pgN d))) := by
  obtain ⟨fd, Fd⟩ := c.dff 4 (d := d_fits)
  exact fn_raw (T := mkT K P w) (ok_fits c M tb I Fd) (bd_fits Fd)
theorem sc_is_step : FnScope N_is_step [("step" : Str), ("width" : Str), ("many" : Str), ("total" : Str)] (defScope s_is_step) := ⟨rfl, rfl, rfl, by decide +kernel, rfl, by decide +kernel, by decide +kernel⟩
theorem ok_is_step (c : HD.Says w h K) (M : Mg (mkT K P w) mg) (tb : ∀ p ∈ lamD, LamX.TabB base mg (He.cT K p).1 (He.cT K p).2) (I : At K P w mg base d) {fd : FuncData} (Fd : FunD K d_is_step.name d_is_step.qual d_is_step.params d_is_step.body d_is_step.scope (d_is_step.dvs K) (d_is_step.kws K) (d_is_step.at_ K) fd) : FnOk P w K mg base (L2.CX P w) (5 * d + 5) (d_is_step.at_ K) fd [("step" : Str), ("width" : Str), ("many" : Str), ("total" : Str)] (fun vs H Q E => vs.length = 4 ∧ spR (mkT K P w) (evFn 4 7 (e_is_step (pgN d))) vs H Q E) :=
  fn_okD (T := mkT K P w) (k := 5 * d + 4) Fd sc_is_step fun cdv A outer s H E hc lk hcd r => b_is_step M (pat_N d) ((glo_ok c).bd I.fk I.fn sc_is_step.nd r) ⟨kds_of hc, r⟩
theorem bd_is_step {fd : FuncData} (Fd : FunD K d_is_step.name d_is_step.qual d_is_step.params d_is_step.body d_is_step.scope (d_is_step.dvs K) (d_is_step.kws K) (d_is_step.at_ K) fd) : Binds K fd [("step" : Str), ("width" : Str), ("many" : Str), ("total" : Str)] [] := FunD.bindsN Fd fun _ _ _ _ _ _ us hl => match us, hl with
  | [_, _, _, _], _ => rfl
theorem fs_is_step (c : HD.Says w h K) (M : Mg (mkT K P w) mg) (tb : ∀ p ∈ lamD, LamX.TabB base mg (He.cT K p).1 (He.cT K p).2) (I : At K P w mg base d) : FnS (mkT K P w) P w mg base (5 * (d + 1)) (d_is_step.at_ K) (evFn 4 7 (e_is_step (pgN d))) := by
  obtain ⟨fd, Fd⟩ := c.dff 5 (d := d_is_step)
  exact fn_raw (T := mkT K P w) (ok_is_step c M tb I Fd) (bd_is_step Fd)
theorem sc_Program_init : FnScope N_Program_init [("self" : Str), ("width" : Str), ("many" : Str), ("steps" : Str)] (defScope s_Program_init) := ⟨rfl, rfl, rfl, by decide +kernel, rfl, by decide +kernel, by decide +kernel⟩
theorem ok_Program_init (c : HD.Says w h K) (M : Mg (mkT K P w) mg) (tb : ∀ p ∈ lamD, LamX.TabB base mg (He.cT K p).1 (He.cT K p).2) (I : At K P w mg base d) {fd : FuncData} (Fd : FunD K d_Program_init.name d_Program_init.qual d_Program_init.params d_Program_init.body d_Program_init.scope (d_Program_init.dvs K) (d_Program_init.kws K) (d_Program_init.at_ K) fd) : FnOk P w K mg base (L2.CX P w) (5 * d + 5) (d_Program_init.at_ K) fd [("self" : Str), ("width" : Str), ("many" : Str), ("steps" : Str)] (fun vs H Q E => vs.length = 4 ∧ spR (mkT K P w) (evFn 4 5 (e_Program_init (pgN d))) vs H Q E) :=
  fn_okD (T := mkT K P w) (k := 5 * d + 4) Fd sc_Program_init fun cdv A outer s H E hc lk hcd r => b_Program_init M (pat_N d) ((glo_ok c).bd I.fk I.fn sc_Program_init.nd r) ⟨kds_of hc, r⟩
theorem bd_Program_init {fd : FuncData} (Fd : FunD K d_Program_init.name d_Program_init.qual d_Program_init.params d_Program_init.body d_Program_init.scope (d_Program_init.dvs K) (d_Program_init.kws K) (d_Program_init.at_ K) fd) : Binds K fd [("self" : Str), ("width" : Str), ("many" : Str), ("steps" : Str)] [] := FunD.bindsN Fd fun _ _ _ _ _ _ us hl => match us, hl with
  | [_, _, _, _], _ => rfl
theorem fs_Program_init (c : HD.Says w h K) (M : Mg (mkT K P w) mg) (tb : ∀ p ∈ lamD, LamX.TabB base mg (He.cT K p).1 (He.cT K p).2) (I : At K P w mg base d) : FnS (mkT K P w) P w mg base (5 * (d + 1)) (d_Program_init.at_ K) (evFn 4 5 (e_Program_init (pgN d))) := by
  obtain ⟨fd, Fd⟩ := c.dff 6 (d := d_Program_init)
  exact fn_raw (T := mkT K P w) (ok_Program_init c M tb I Fd) (bd_Program_init Fd)
theorem sc_Program_of : FnScope N_Program_of [("cls" : Str), ("steps" : Str), ("width" : Str), ("many" : Str)] (defScope s_Program_of) := ⟨rfl, rfl, rfl, by decide +kernel, rfl, by decide +kernel, by decide +kernel⟩
theorem ok_Program_of (c : HD.Says w h K) (M : Mg (mkT K P w) mg) (tb : ∀ p ∈ lamD, LamX.TabB base mg (He.cT K p).1 (He.cT K p).2) (I : At K P w mg base d) {fd : FuncData} (Fd : FunD K d_Program_of.name d_Program_of.qual d_Program_of.params d_Program_of.body d_Program_of.scope (d_Program_of.dvs K) (d_Program_of.kws K) (d_Program_of.at_ K) fd) : FnOk P w K mg base (L2.CX P w) (5 * d + 5) (d_Program_of.at_ K) fd [("cls" : Str), ("steps" : Str), ("width" : Str), ("many" : Str)] (fun vs H Q E => vs.length = 4 ∧ spR (mkT K P w) (evFn 4 4 (e_Program_of (pgN d))) vs H Q E) :=
  fn_okD (T := mkT K P w) (k := 5 * d + 4) Fd sc_Program_of fun cdv A outer s H E hc lk hcd r => b_Program_of M (pat_N d) ((glo_ok c).bd I.fk I.fn sc_Program_of.nd r) ⟨kds_of hc, r⟩
theorem sc_Program_width : FnScope N_Program_width [("self" : Str)] (defScope s_Program_width) := ⟨rfl, rfl, rfl, by decide +kernel, rfl, by decide +kernel, by decide +kernel⟩
theorem ok_Program_width (c : HD.Says w h K) (M : Mg (mkT K P w) mg) (tb : ∀ p ∈ lamD, LamX.TabB base mg (He.cT K p).1 (He.cT K p).2) (I : At K P w mg base d) {fd : FuncData} (Fd : FunD K d_Program_width.name d_Program_width.qual d_Program_width.params d_Program_width.body d_Program_width.scope (d_Program_width.dvs K) (d_Program_width.kws K) (d_Program_width.at_ K) fd) : FnOk P w K mg base (L2.CX P w) (5 * d + 5) (d_Program_width.at_ K) fd [("self" : Str)] (fun vs H Q E => vs.length = 1 ∧ spR (mkT K P w) (evFn 1 1 (e_Program_width (pgN d))) vs H Q E) :=
  fn_okD (T := mkT K P w) (k := 5 * d + 4) Fd sc_Program_width fun cdv A outer s H E hc lk hcd r => b_Program_width M (pat_N d) ((glo_ok c).bd I.fk I.fn sc_Program_width.nd r) ⟨kds_of hc, r⟩
theorem bd_Program_width {fd : FuncData} (Fd : FunD K d_Program_width.name d_Program_width.qual d_Program_width.params d_Program_width.body d_Program_width.scope (d_Program_width.dvs K) (d_Program_width.kws K) (d_Program_width.at_ K) fd) : Binds K fd [("self" : Str)] [] := FunD.bindsN Fd fun _ _ _ _ _ _ us hl => match us, hl with
  | [_], _ => rfl
theorem fs_Program_width (c : HD.Says w h K) (M : Mg (mkT K P w) mg) (tb : ∀ p ∈ lamD, LamX.TabB base mg (He.cT K p).1 (He.cT K p).2) (I : At K P w mg base d) : FnS (mkT K P w) P w mg base (5 * (d + 1)) (d_Program_width.at_ K) (evFn 1 1 (e_Program_width (pgN d))) := by
  obtain ⟨fd, Fd⟩ := c.dff 8 (d := d_Program_width)
  exact fn_raw (T := mkT K P w) (ok_Program_width c M tb I Fd) (bd_Program_width Fd)
theorem sc_Program_many : FnScope N_Program_many [("self" : Str)] (defScope s_Program_many) := ⟨rfl, rfl, rfl, by decide +kernel, rfl, by decide +kernel, by decide +kernel⟩
theorem ok_Program_many (c : HD.Says w h K) (M : Mg (mkT K P w) mg) (tb : ∀ p ∈ lamD, LamX.TabB base mg (He.cT K p).1 (He.cT K p).2) (I : At K P w mg base d) {fd : FuncData} (Fd : FunD K d_Program_many.name d_Program_many.qual d_Program_many.params d_Program_many.body d_Program_many.scope (d_Program_many.dvs K) (d_Program_many.kws K) (d_Program_many.at_ K) fd) : FnOk P w K mg base (L2.CX P w) (5 * d + 5) (d_Program_many.at_ K) fd [("self" : Str)] (fun vs H Q E => vs.length = 1 ∧ spR (mkT K P w) (evFn 1 1 (e_Program_many (pgN d))) vs H Q E) :=
  fn_okD (T := mkT K P w) (k := 5 * d + 4) Fd sc_Program_many fun cdv A outer s H E hc lk hcd r => b_Program_many M (pat_N d) ((glo_ok c).bd I.fk I.fn sc_Program_many.nd r) ⟨kds_of hc, r⟩
theorem bd_Program_many {fd : FuncData} (Fd : FunD K d_Program_many.name d_Program_many.qual d_Program_many.params d_Program_many.body d_Program_many.scope (d_Program_many.dvs K) (d_Program_many.kws K) (d_Program_many.at_ K) fd) : Binds K fd [("self" : Str)] [] := FunD.bindsN Fd fun _ _ _ _ _ _ us hl => match us, hl with
  | [_], _ => rfl
theorem fs_Program_many (c : HD.Says w h K) (M : Mg (mkT K P w) mg) (tb : ∀ p ∈ lamD, LamX.TabB base mg (He.cT K p).1 (He.cT K p).2) (I : At K P w mg base d) : FnS (mkT K P w) P w mg base (5 * (d + 1)) (d_Program_many.at_ K) (evFn 1 1 (e_Program_many (pgN d))) := by
  obtain ⟨fd, Fd⟩ := c.dff 9 (d := d_Program_many)
  exact fn_raw (T := mkT K P w) (ok_Program_many c M tb I Fd) (bd_Program_many Fd)
theorem sc_Program_steps : FnScope N_Program_steps [("self" : Str)] (defScope s_Program_steps) := ⟨rfl, rfl, rfl, by decide +kernel, rfl, by decide +kernel, by decide +kernel⟩
theorem ok_Program_steps (c : HD.Says w h K) (M : Mg (mkT K P w) mg) (tb : ∀ p ∈ lamD, LamX.TabB base mg (He.cT K p).1 (He.cT K p).2) (I : At K P w mg base d) {fd : FuncData} (Fd : FunD K d_Program_steps.name d_Program_steps.qual d_Program_steps.params d_Program_steps.body d_Program_steps.scope (d_Program_steps.dvs K) (d_Program_steps.kws K) (d_Program_steps.at_ K) fd) : FnOk P w K mg base (L2.CX P w) (5 * d + 5) (d_Program_steps.at_ K) fd [("self" : Str)] (fun vs H Q E => vs.length = 1 ∧ spR (mkT K P w) (evFn 1 1 (e_Program_steps (pgN d))) vs H Q E) :=
  fn_okD (T := mkT K P w) (k := 5 * d + 4) Fd sc_Program_steps fun cdv A outer s H E hc lk hcd r => b_Program_steps M (pat_N d) ((glo_ok c).bd I.fk I.fn sc_Program_steps.nd r) ⟨kds_of hc, r⟩
theorem bd_Program_steps {fd : FuncData} (Fd : FunD K d_Program_steps.name d_Program_steps.qual d_Program_steps.params d_Program_steps.body d_Program_steps.scope (d_Program_steps.dvs K) (d_Program_steps.kws K) (d_Program_steps.at_ K) fd) : Binds K fd [("self" : Str)] [] := FunD.bindsN Fd fun _ _ _ _ _ _ us hl => match us, hl with
  | [_], _ => rfl
theorem fs_Program_steps (c : HD.Says w h K) (M : Mg (mkT K P w) mg) (tb : ∀ p ∈ lamD, LamX.TabB base mg (He.cT K p).1 (He.cT K p).2) (I : At K P w mg base d) : FnS (mkT K P w) P w mg base (5 * (d + 1)) (d_Program_steps.at_ K) (evFn 1 1 (e_Program_steps (pgN d))) := by
  obtain ⟨fd, Fd⟩ := c.dff 10 (d := d_Program_steps)
  exact fn_raw (T := mkT K P w) (ok_Program_steps c M tb I Fd) (bd_Program_steps Fd)
theorem sc_Program_eq : FnScope N_Program_eq [("self" : Str), ("other" : Str)] (defScope s_Program_eq) := ⟨rfl, rfl, rfl, by decide +kernel, rfl, by decide +kernel, by decide +kernel⟩
theorem ok_Program_eq (c : HD.Says w h K) (M : Mg (mkT K P w) mg) (tb : ∀ p ∈ lamD, LamX.TabB base mg (He.cT K p).1 (He.cT K p).2) (I : At K P w mg base d) {fd : FuncData} (Fd : FunD K d_Program_eq.name d_Program_eq.qual d_Program_eq.params d_Program_eq.body d_Program_eq.scope (d_Program_eq.dvs K) (d_Program_eq.kws K) (d_Program_eq.at_ K) fd) : FnOk P w K mg base (L2.CX P w) (5 * d + 5) (d_Program_eq.at_ K) fd [("self" : Str), ("other" : Str)] (fun vs H Q E => vs.length = 2 ∧ spR (mkT K P w) (evFn 2 2 (e_Program_eq (pgN d))) vs H Q E) :=
  fn_okD (T := mkT K P w) (k := 5 * d + 4) Fd sc_Program_eq fun cdv A outer s H E hc lk hcd r => b_Program_eq M (pat_N d) ((glo_ok c).bd I.fk I.fn sc_Program_eq.nd r) ⟨kds_of hc, r⟩
theorem bd_Program_eq {fd : FuncData} (Fd : FunD K d_Program_eq.name d_Program_eq.qual d_Program_eq.params d_Program_eq.body d_Program_eq.scope (d_Program_eq.dvs K) (d_Program_eq.kws K) (d_Program_eq.at_ K) fd) : Binds K fd [("self" : Str), ("other" : Str)] [] := FunD.bindsN Fd fun _ _ _ _ _ _ us hl => match us, hl with
  | [_, _], _ => rfl
theorem fs_Program_eq (c : HD.Says w h K) (M : Mg (mkT K P w) mg) (tb : ∀ p ∈ lamD, LamX.TabB base mg (He.cT K p).1 (He.cT K p).2) (I : At K P w mg base d) : FnS (mkT K P w) P w mg base (5 * (d + 1)) (d_Program_eq.at_ K) (evFn 2 2 (e_Program_eq (pgN d))) := by
  obtain ⟨fd, Fd⟩ := c.dff 11 (d := d_Program_eq)
  exact fn_raw (T := mkT K P w) (ok_Program_eq c M tb I Fd) (bd_Program_eq Fd)
theorem sc_Program_len : FnScope N_Program_len [("self" : Str)] (defScope s_Program_len) := ⟨rfl, rfl, rfl, by decide +kernel, rfl, by decide +kernel, by decide +kernel⟩
theorem ok_Program_len (c : HD.Says w h K) (M : Mg (mkT K P w) mg) (tb : ∀ p ∈ lamD, LamX.TabB base mg (He.cT K p).1 (He.cT K p).2) (I : At K P w mg base d) {fd : FuncData} (Fd : FunD K d_Program_len.name d_Program_len.qual d_Program_len.params d_Program_len.body d_Program_len.scope (d_Program_len.dvs K) (d_Program_len.kws K) (d_Program_len.at_ K) fd) : FnOk P w K mg base (L2.CX P w) (5 * d + 5) (d_Program_len.at_ K) fd [("self" : Str)] (fun vs H Q E => vs.length = 1 ∧ spR (mkT K P w) (evFn 1 1 (e_Program_len (pgN d))) vs H Q E) :=
  fn_okD (T := mkT K P w) (k := 5 * d + 4) Fd sc_Program_len fun cdv A outer s H E hc lk hcd r => b_Program_len M (pat_N d) ((glo_ok c).bd I.fk I.fn sc_Program_len.nd r) ⟨kds_of hc, r⟩
theorem bd_Program_len {fd : FuncData} (Fd : FunD K d_Program_len.name d_Program_len.qual d_Program_len.params d_Program_len.body d_Program_len.scope (d_Program_len.dvs K) (d_Program_len.kws K) (d_Program_len.at_ K) fd) : Binds K fd [("self" : Str)] [] := FunD.bindsN Fd fun _ _ _ _ _ _ us hl => match us, hl with
  | [_], _ => rfl
theorem fs_Program_len (c : HD.Says w h K) (M : Mg (mkT K P w) mg) (tb : ∀ p ∈ lamD, LamX.TabB base mg (He.cT K p).1 (He.cT K p).2) (I : At K P w mg base d) : FnS (mkT K P w) P w mg base (5 * (d + 1)) (d_Program_len.at_ K) (evFn 1 1 (e_Program_len (pgN d))) := by
  obtain ⟨fd, Fd⟩ := c.dff 12 (d := d_Program_len)
  exact fn_raw (T := mkT K P w) (ok_Program_len c M tb I Fd) (bd_Program_len Fd)
theorem sc_Program_keeps : FnScope N_Program_keeps [("self" : Str)] (defScope s_Program_keeps) := ⟨rfl, rfl, rfl, by decide +kernel, rfl, by decide +kernel, by decide +kernel⟩
theorem ok_Program_keeps (c : HD.Says w h K) (M : Mg (mkT K P w) mg) (tb : ∀ p ∈ lamD, LamX.TabB base mg (He.cT K p).1 (He.cT K p).2) (I : At K P w mg base d) {fd : FuncData} (Fd : FunD K d_Program_keeps.name d_Program_keeps.qual d_Program_keeps.params d_Program_keeps.body d_Program_keeps.scope (d_Program_keeps.dvs K) (d_Program_keeps.kws K) (d_Program_keeps.at_ K) fd) : FnOk P w K mg base (L2.CX P w) (5 * d + 5) (d_Program_keeps.at_ K) fd [("self" : Str)] (fun vs H Q E => vs.length = 1 ∧ spR (mkT K P w) (evFn 1 1 (e_Program_keeps (pgN d))) vs H Q E) :=
  fn_okD (T := mkT K P w) (k := 5 * d + 4) Fd sc_Program_keeps fun cdv A outer s H E hc lk hcd r => b_Program_keeps M (pat_N d) ((glo_ok c).bd I.fk I.fn sc_Program_keeps.nd r) ⟨kds_of hc, r⟩
theorem bd_Program_keeps {fd : FuncData} (Fd : FunD K d_Program_keeps.name d_Program_keeps.qual d_Program_keeps.params d_Program_keeps.body d_Program_keeps.scope (d_Program_keeps.dvs K) (d_Program_keeps.kws K) (d_Program_keeps.at_ K) fd) : Binds K fd [("self" : Str)] [] := FunD.bindsN Fd fun _ _ _ _ _ _ us hl => match us, hl with
  | [_], _ => rfl
theorem fs_Program_keeps (c : HD.Says w h K) (M : Mg (mkT K P w) mg) (tb : ∀ p ∈ lamD, LamX.TabB base mg (He.cT K p).1 (He.cT K p).2) (I : At K P w mg base d) : FnS (mkT K P w) P w mg base (5 * (d + 1)) (d_Program_keeps.at_ K) (evFn 1 1 (e_Program_keeps (pgN d))) := by
  obtain ⟨fd, Fd⟩ := c.dff 13 (d := d_Program_keeps)
  exact fn_raw (T := mkT K P w) (ok_Program_keeps c M tb I Fd) (bd_Program_keeps Fd)
theorem sc_check_program : FnScope N_check_program [("program" : Str)] (defScope s_check_program) := ⟨rfl, rfl, rfl, by decide +kernel, rfl, by decide +kernel, by decide +kernel⟩
theorem ok_check_program (c : HD.Says w h K) (M : Mg (mkT K P w) mg) (tb : ∀ p ∈ lamD, LamX.TabB base mg (He.cT K p).1 (He.cT K p).2) (I : At K P w mg base d) {fd : FuncData} (Fd : FunD K d_check_program.name d_check_program.qual d_check_program.params d_check_program.body d_check_program.scope (d_check_program.dvs K) (d_check_program.kws K) (d_check_program.at_ K) fd) : FnOk P w K mg base (L2.CX P w) (5 * d + 5) (d_check_program.at_ K) fd [("program" : Str)] (fun vs H Q E => vs.length = 1 ∧ spR (mkT K P w) (evFn 1 1 (e_check_program (pgN d))) vs H Q E) :=
  fn_okD (T := mkT K P w) (k := 5 * d + 4) Fd sc_check_program fun cdv A outer s H E hc lk hcd r => b_check_program M (pat_N d) ((glo_ok c).bd I.fk I.fn sc_check_program.nd r) ⟨kds_of hc, r⟩
theorem bd_check_program {fd : FuncData} (Fd : FunD K d_check_program.name d_check_program.qual d_check_program.params d_check_program.body d_check_program.scope (d_check_program.dvs K) (d_check_program.kws K) (d_check_program.at_ K) fd) : Binds K fd [("program" : Str)] [] := FunD.bindsN Fd fun _ _ _ _ _ _ us hl => match us, hl with
  | [_], _ => rfl
theorem fs_check_program (c : HD.Says w h K) (M : Mg (mkT K P w) mg) (tb : ∀ p ∈ lamD, LamX.TabB base mg (He.cT K p).1 (He.cT K p).2) (I : At K P w mg base d) : FnS (mkT K P w) P w mg base (5 * (d + 1)) (d_check_program.at_ K) (evFn 1 1 (e_check_program (pgN d))) := by
  obtain ⟨fd, Fd⟩ := c.dff 14 (d := d_check_program)
  exact fn_raw (T := mkT K P w) (ok_check_program c M tb I Fd) (bd_check_program Fd)
theorem sc_size_of : FnScope N_size_of [("piece" : Str)] (defScope s_size_of) := ⟨rfl, rfl, rfl, by decide +kernel, rfl, by decide +kernel, by decide +kernel⟩
theorem ok_size_of (c : HD.Says w h K) (M : Mg (mkT K P w) mg) (tb : ∀ p ∈ lamD, LamX.TabB base mg (He.cT K p).1 (He.cT K p).2) (I : At K P w mg base d) {fd : FuncData} (Fd : FunD K d_size_of.name d_size_of.qual d_size_of.params d_size_of.body d_size_of.scope (d_size_of.dvs K) (d_size_of.kws K) (d_size_of.at_ K) fd) : FnOk P w K mg base (L2.CX P w) (5 * d + 5) (d_size_of.at_ K) fd [("piece" : Str)] (fun vs H Q E => vs.length = 1 ∧ spR (mkT K P w) (evFn 1 1 (e_size_of (pgN d))) vs H Q E) :=
  fn_okD (T := mkT K P w) (k := 5 * d + 4) Fd sc_size_of fun cdv A outer s H E hc lk hcd r => b_size_of M (pat_N d) ((glo_ok c).bd I.fk I.fn sc_size_of.nd r) ⟨kds_of hc, r⟩
theorem bd_size_of {fd : FuncData} (Fd : FunD K d_size_of.name d_size_of.qual d_size_of.params d_size_of.body d_size_of.scope (d_size_of.dvs K) (d_size_of.kws K) (d_size_of.at_ K) fd) : Binds K fd [("piece" : Str)] [] := FunD.bindsN Fd fun _ _ _ _ _ _ us hl => match us, hl with
  | [_], _ => rfl
theorem fs_size_of (c : HD.Says w h K) (M : Mg (mkT K P w) mg) (tb : ∀ p ∈ lamD, LamX.TabB base mg (He.cT K p).1 (He.cT K p).2) (I : At K P w mg base d) : FnS (mkT K P w) P w mg base (5 * (d + 1)) (d_size_of.at_ K) (evFn 1 1 (e_size_of (pgN d))) := by
  obtain ⟨fd, Fd⟩ := c.dff 15 (d := d_size_of)
  exact fn_raw (T := mkT K P w) (ok_size_of c M tb I Fd) (bd_size_of Fd)
theorem sc_is_whole : FnScope N_is_whole [("piece" : Str), ("blocks" : Str)] (defScope s_is_whole) := ⟨rfl, rfl, rfl, by decide +kernel, rfl, by decide +kernel, by decide +kernel⟩
theorem ok_is_whole (c : HD.Says w h K) (M : Mg (mkT K P w) mg) (tb : ∀ p ∈ lamD, LamX.TabB base mg (He.cT K p).1 (He.cT K p).2) (I : At K P w mg base d) {fd : FuncData} (Fd : FunD K d_is_whole.name d_is_whole.qual d_is_whole.params d_is_whole.body d_is_whole.scope (d_is_whole.dvs K) (d_is_whole.kws K) (d_is_whole.at_ K) fd) : FnOk P w K mg base (L2.CX P w) (5 * d + 5) (d_is_whole.at_ K) fd [("piece" : Str), ("blocks" : Str)] (fun vs H Q E => vs.length = 2 ∧ spR (mkT K P w) (evFn 2 2 (e_is_whole (pgN d))) vs H Q E) :=
  fn_okD (T := mkT K P w) (k := 5 * d + 4) Fd sc_is_whole fun cdv A outer s H E hc lk hcd r => b_is_whole M (pat_N d) ((glo_ok c).bd I.fk I.fn sc_is_whole.nd r) ⟨kds_of hc, r⟩
theorem bd_is_whole {fd : FuncData} (Fd : FunD K d_is_whole.name d_is_whole.qual d_is_whole.params d_is_whole.body d_is_whole.scope (d_is_whole.dvs K) (d_is_whole.kws K) (d_is_whole.at_ K) fd) : Binds K fd [("piece" : Str), ("blocks" : Str)] [] := FunD.bindsN Fd fun _ _ _ _ _ _ us hl => match us, hl with
  | [_, _], _ => rfl
theorem fs_is_whole (c : HD.Says w h K) (M : Mg (mkT K P w) mg) (tb : ∀ p ∈ lamD, LamX.TabB base mg (He.cT K p).1 (He.cT K p).2) (I : At K P w mg base d) : FnS (mkT K P w) P w mg base (5 * (d + 1)) (d_is_whole.at_ K) (evFn 2 2 (e_is_whole (pgN d))) := by
  obtain ⟨fd, Fd⟩ := c.dff 16 (d := d_is_whole)
  exact fn_raw (T := mkT K P w) (ok_is_whole c M tb I Fd) (bd_is_whole Fd)
theorem sc_fresh : FnScope N_fresh [("size" : Str), ("blocks" : Str)] (defScope s_fresh) := ⟨rfl, rfl, rfl, by decide +kernel, rfl, by decide +kernel, by decide +kernel⟩
theorem ok_fresh (c : HD.Says w h K) (M : Mg (mkT K P w) mg) (tb : ∀ p ∈ lamD, LamX.TabB base mg (He.cT K p).1 (He.cT K p).2) (I : At K P w mg base d) {fd : FuncData} (Fd : FunD K d_fresh.name d_fresh.qual d_fresh.params d_fresh.body d_fresh.scope (d_fresh.dvs K) (d_fresh.kws K) (d_fresh.at_ K) fd) : FnOk P w K mg base (L2.CX P w) (5 * d + 5) (d_fresh.at_ K) fd [("size" : Str), ("blocks" : Str)] (fun vs H Q E => vs.length = 2 ∧ spR (mkT K P w) (evFn 2 2 (e_fresh (pgN d))) vs H Q E) :=
  fn_okD (T := mkT K P w) (k := 5 * d + 4) Fd sc_fresh fun cdv A outer s H E hc lk hcd r => b_fresh M (pat_N d) ((glo_ok c).bd I.fk I.fn sc_fresh.nd r) ⟨kds_of hc, r⟩
theorem bd_fresh {fd : FuncData} (Fd : FunD K d_fresh.name d_fresh.qual d_fresh.params d_fresh.body d_fresh.scope (d_fresh.dvs K) (d_fresh.kws K) (d_fresh.at_ K) fd) : Binds K fd [("size" : Str), ("blocks" : Str)] [] := FunD.bindsN Fd fun _ _ _ _ _ _ us hl => match us, hl with
  | [_, _], _ => rfl
theorem fs_fresh (c : HD.Says w h K) (M : Mg (mkT K P w) mg) (tb : ∀ p ∈ lamD, LamX.TabB base mg (He.cT K p).1 (He.cT K p).2) (I : At K P w mg base d) : FnS (mkT K P w) P w mg base (5 * (d + 1)) (d_fresh.at_ K) (evFn 2 2 (e_fresh (pgN d))) := by
  obtain ⟨fd, Fd⟩ := c.dff 17 (d := d_fresh)
  exact fn_raw (T := mkT K P w) (ok_fresh c M tb I Fd) (bd_fresh Fd)
theorem sc_part : FnScope N_part [("piece" : Str), ("begin" : Str), ("end" : Str)] (defScope s_part) := ⟨rfl, rfl, rfl, by decide +kernel, rfl, by decide +kernel, by decide +kernel⟩
theorem ok_part (c : HD.Says w h K) (M : Mg (mkT K P w) mg) (tb : ∀ p ∈ lamD, LamX.TabB base mg (He.cT K p).1 (He.cT K p).2) (I : At K P w mg base d) {fd : FuncData} (Fd : FunD K d_part.name d_part.qual d_part.params d_part.body d_part.scope (d_part.dvs K) (d_part.kws K) (d_part.at_ K) fd) : FnOk P w K mg base (L2.CX P w) (5 * d + 5) (d_part.at_ K) fd [("piece" : Str), ("begin" : Str), ("end" : Str)] (fun vs H Q E => vs.length = 3 ∧ spR (mkT K P w) (evFn 3 8 (e_part (pgN d))) vs H Q E) :=
  fn_okD (T := mkT K P w) (k := 5 * d + 4) Fd sc_part fun cdv A outer s H E hc lk hcd r => b_part M (pat_N d) ((glo_ok c).bd I.fk I.fn sc_part.nd r) ⟨kds_of hc, r⟩
theorem bd_part {fd : FuncData} (Fd : FunD K d_part.name d_part.qual d_part.params d_part.body d_part.scope (d_part.dvs K) (d_part.kws K) (d_part.at_ K) fd) : Binds K fd [("piece" : Str), ("begin" : Str), ("end" : Str)] [] := FunD.bindsN Fd fun _ _ _ _ _ _ us hl => match us, hl with
  | [_, _, _], _ => rfl
theorem fs_part (c : HD.Says w h K) (M : Mg (mkT K P w) mg) (tb : ∀ p ∈ lamD, LamX.TabB base mg (He.cT K p).1 (He.cT K p).2) (I : At K P w mg base d) : FnS (mkT K P w) P w mg base (5 * (d + 1)) (d_part.at_ K) (evFn 3 8 (e_part (pgN d))) := by
  obtain ⟨fd, Fd⟩ := c.dff 18 (d := d_part)
  exact fn_raw (T := mkT K P w) (ok_part c M tb I Fd) (bd_part Fd)
theorem sc_joined : FnScope N_joined [("one" : Str), ("other" : Str), ("width" : Str), ("blocks" : Str)] (defScope s_joined) := ⟨rfl, rfl, rfl, by decide +kernel, rfl, by decide +kernel, by decide +kernel⟩
theorem ok_joined (c : HD.Says w h K) (M : Mg (mkT K P w) mg) (tb : ∀ p ∈ lamD, LamX.TabB base mg (He.cT K p).1 (He.cT K p).2) (I : At K P w mg base d) {fd : FuncData} (Fd : FunD K d_joined.name d_joined.qual d_joined.params d_joined.body d_joined.scope (d_joined.dvs K) (d_joined.kws K) (d_joined.at_ K) fd) : FnOk P w K mg base (L2.CX P w) (5 * d + 5) (d_joined.at_ K) fd [("one" : Str), ("other" : Str), ("width" : Str), ("blocks" : Str)] (fun vs H Q E => vs.length = 4 ∧ spR (mkT K P w) (evFn 4 4 (e_joined (pgN d))) vs H Q E) :=
  fn_okD (T := mkT K P w) (k := 5 * d + 4) Fd sc_joined fun cdv A outer s H E hc lk hcd r => b_joined M (pat_N d) ((glo_ok c).bd I.fk I.fn sc_joined.nd r) ⟨kds_of hc, r⟩
theorem bd_joined {fd : FuncData} (Fd : FunD K d_joined.name d_joined.qual d_joined.params d_joined.body d_joined.scope (d_joined.dvs K) (d_joined.kws K) (d_joined.at_ K) fd) : Binds K fd [("one" : Str), ("other" : Str), ("width" : Str), ("blocks" : Str)] [] := FunD.bindsN Fd fun _ _ _ _ _ _ us hl => match us, hl with
  | [_, _, _, _], _ => rfl
theorem fs_joined (c : HD.Says w h K) (M : Mg (mkT K P w) mg) (tb : ∀ p ∈ lamD, LamX.TabB base mg (He.cT K p).1 (He.cT K p).2) (I : At K P w mg base d) : FnS (mkT K P w) P w mg base (5 * (d + 1)) (d_joined.at_ K) (evFn 4 4 (e_joined (pgN d))) := by
  obtain ⟨fd, Fd⟩ := c.dff 19 (d := d_joined)
  exact fn_raw (T := mkT K P w) (ok_joined c M tb I Fd) (bd_joined Fd)
theorem sc_shelved : FnScope N_shelved [("piece" : Str), ("blocks" : Str)] (defScope s_shelved) := ⟨rfl, rfl, rfl, by decide +kernel, rfl, by decide +kernel, by decide +kernel⟩
theorem ok_shelved (c : HD.Says w h K) (M : Mg (mkT K P w) mg) (tb : ∀ p ∈ lamD, LamX.TabB base mg (He.cT K p).1 (He.cT K p).2) (I : At K P w mg base d) {fd : FuncData} (Fd : FunD K d_shelved.name d_shelved.qual d_shelved.params d_shelved.body d_shelved.scope (d_shelved.dvs K) (d_shelved.kws K) (d_shelved.at_ K) fd) : FnOk P w K mg base (L2.CX P w) (5 * d + 5) (d_shelved.at_ K) fd [("piece" : Str), ("blocks" : Str)] (fun vs H Q E => vs.length = 2 ∧ spR (mkT K P w) (evFn 2 8 (e_shelved (pgN d))) vs H Q E) :=
  fn_okD (T := mkT K P w) (k := 5 * d + 4) Fd sc_shelved fun cdv A outer s H E hc lk hcd r => b_shelved M (pat_N d) ((glo_ok c).bd I.fk I.fn sc_shelved.nd r) ⟨kds_of hc, r⟩
theorem bd_shelved {fd : FuncData} (Fd : FunD K d_shelved.name d_shelved.qual d_shelved.params d_shelved.body d_shelved.scope (d_shelved.dvs K) (d_shelved.kws K) (d_shelved.at_ K) fd) : Binds K fd [("piece" : Str), ("blocks" : Str)] [] := FunD.bindsN Fd fun _ _ _ _ _ _ us hl => match us, hl with
  | [_, _], _ => rfl
theorem fs_shelved (c : HD.Says w h K) (M : Mg (mkT K P w) mg) (tb : ∀ p ∈ lamD, LamX.TabB base mg (He.cT K p).1 (He.cT K p).2) (I : At K P w mg base d) : FnS (mkT K P w) P w mg base (5 * (d + 1)) (d_shelved.at_ K) (evFn 2 8 (e_shelved (pgN d))) := by
  obtain ⟨fd, Fd⟩ := c.dff 20 (d := d_shelved)
  exact fn_raw (T := mkT K P w) (ok_shelved c M tb I Fd) (bd_shelved Fd)
theorem sc_made : FnScope N_made [("step" : Str), ("width" : Str), ("held" : Str), ("blocks" : Str)] (defScope s_made) := ⟨rfl, rfl, rfl, by decide +kernel, rfl, by decide +kernel, by decide +kernel⟩
theorem ok_made (c : HD.Says w h K) (M : Mg (mkT K P w) mg) (tb : ∀ p ∈ lamD, LamX.TabB base mg (He.cT K p).1 (He.cT K p).2) (I : At K P w mg base d) {fd : FuncData} (Fd : FunD K d_made.name d_made.qual d_made.params d_made.body d_made.scope (d_made.dvs K) (d_made.kws K) (d_made.at_ K) fd) : FnOk P w K mg base (L2.CX P w) (5 * d + 5) (d_made.at_ K) fd [("step" : Str), ("width" : Str), ("held" : Str), ("blocks" : Str)] (fun vs H Q E => vs.length = 4 ∧ spR (mkT K P w) (evFn 4 6 (e_made (pgN d))) vs H Q E) :=
  fn_okD (T := mkT K P w) (k := 5 * d + 4) Fd sc_made fun cdv A outer s H E hc lk hcd r => b_made M (pat_N d) ((glo_ok c).bd I.fk I.fn sc_made.nd r) ⟨kds_of hc, r⟩
theorem bd_made {fd : FuncData} (Fd : FunD K d_made.name d_made.qual d_made.params d_made.body d_made.scope (d_made.dvs K) (d_made.kws K) (d_made.at_ K) fd) : Binds K fd [("step" : Str), ("width" : Str), ("held" : Str), ("blocks" : Str)] [] := FunD.bindsN Fd fun _ _ _ _ _ _ us hl => match us, hl with
  | [_, _, _, _], _ => rfl
theorem fs_made (c : HD.Says w h K) (M : Mg (mkT K P w) mg) (tb : ∀ p ∈ lamD, LamX.TabB base mg (He.cT K p).1 (He.cT K p).2) (I : At K P w mg base d) : FnS (mkT K P w) P w mg base (5 * (d + 1)) (d_made.at_ K) (evFn 4 6 (e_made (pgN d))) := by
  obtain ⟨fd, Fd⟩ := c.dff 21 (d := d_made)
  exact fn_raw (T := mkT K P w) (ok_made c M tb I Fd) (bd_made Fd)
theorem sc_act : FnScope N_act [("step" : Str), ("width" : Str), ("held" : Str), ("blocks" : Str)] (defScope s_act) := ⟨rfl, rfl, rfl, by decide +kernel, rfl, by decide +kernel, by decide +kernel⟩
theorem ok_act (c : HD.Says w h K) (M : Mg (mkT K P w) mg) (tb : ∀ p ∈ lamD, LamX.TabB base mg (He.cT K p).1 (He.cT K p).2) (I : At K P w mg base d) {fd : FuncData} (Fd : FunD K d_act.name d_act.qual d_act.params d_act.body d_act.scope (d_act.dvs K) (d_act.kws K) (d_act.at_ K) fd) : FnOk P w K mg base (L2.CX P w) (5 * d + 5) (d_act.at_ K) fd [("step" : Str), ("width" : Str), ("held" : Str), ("blocks" : Str)] (fun vs H Q E => vs.length = 4 ∧ spR (mkT K P w) (evFn 4 6 (e_act (pgN d))) vs H Q E) :=
  fn_okD (T := mkT K P w) (k := 5 * d + 4) Fd sc_act fun cdv A outer s H E hc lk hcd r => b_act M (pat_N d) ((glo_ok c).bd I.fk I.fn sc_act.nd r) ⟨kds_of hc, r⟩
theorem bd_act {fd : FuncData} (Fd : FunD K d_act.name d_act.qual d_act.params d_act.body d_act.scope (d_act.dvs K) (d_act.kws K) (d_act.at_ K) fd) : Binds K fd [("step" : Str), ("width" : Str), ("held" : Str), ("blocks" : Str)] [] := FunD.bindsN Fd fun _ _ _ _ _ _ us hl => match us, hl with
  | [_, _, _, _], _ => rfl
theorem fs_act (c : HD.Says w h K) (M : Mg (mkT K P w) mg) (tb : ∀ p ∈ lamD, LamX.TabB base mg (He.cT K p).1 (He.cT K p).2) (I : At K P w mg base d) : FnS (mkT K P w) P w mg base (5 * (d + 1)) (d_act.at_ K) (evFn 4 6 (e_act (pgN d))) := by
  obtain ⟨fd, Fd⟩ := c.dff 22 (d := d_act)
  exact fn_raw (T := mkT K P w) (ok_act c M tb I Fd) (bd_act Fd)
theorem sc_settled : FnScope N_settled [("index" : Str), ("held" : Str), ("blocks" : Str)] (defScope s_settled) := ⟨rfl, rfl, rfl, by decide +kernel, rfl, by decide +kernel, by decide +kernel⟩
theorem ok_settled (c : HD.Says w h K) (M : Mg (mkT K P w) mg) (tb : ∀ p ∈ lamD, LamX.TabB base mg (He.cT K p).1 (He.cT K p).2) (I : At K P w mg base d) {fd : FuncData} (Fd : FunD K d_settled.name d_settled.qual d_settled.params d_settled.body d_settled.scope (d_settled.dvs K) (d_settled.kws K) (d_settled.at_ K) fd) : FnOk P w K mg base (L2.CX P w) (5 * d + 5) (d_settled.at_ K) fd [("index" : Str), ("held" : Str), ("blocks" : Str)] (fun vs H Q E => vs.length = 3 ∧ spR (mkT K P w) (evFn 3 11 (e_settled (pgN d))) vs H Q E) :=
  fn_okD (T := mkT K P w) (k := 5 * d + 4) Fd sc_settled fun cdv A outer s H E hc lk hcd r => b_settled M (pat_N d) ((glo_ok c).bd I.fk I.fn sc_settled.nd r) ⟨kds_of hc, r⟩
theorem bd_settled {fd : FuncData} (Fd : FunD K d_settled.name d_settled.qual d_settled.params d_settled.body d_settled.scope (d_settled.dvs K) (d_settled.kws K) (d_settled.at_ K) fd) : Binds K fd [("index" : Str), ("held" : Str), ("blocks" : Str)] [] := FunD.bindsN Fd fun _ _ _ _ _ _ us hl => match us, hl with
  | [_, _, _], _ => rfl
theorem fs_settled (c : HD.Says w h K) (M : Mg (mkT K P w) mg) (tb : ∀ p ∈ lamD, LamX.TabB base mg (He.cT K p).1 (He.cT K p).2) (I : At K P w mg base d) : FnS (mkT K P w) P w mg base (5 * (d + 1)) (d_settled.at_ K) (evFn 3 11 (e_settled (pgN d))) := by
  obtain ⟨fd, Fd⟩ := c.dff 23 (d := d_settled)
  exact fn_raw (T := mkT K P w) (ok_settled c M tb I Fd) (bd_settled Fd)
theorem sc_turns : FnScope N_turns [("step" : Str), ("index" : Str), ("held" : Str)] (defScope s_turns) := ⟨rfl, rfl, rfl, by decide +kernel, rfl, by decide +kernel, by decide +kernel⟩
theorem ok_turns (c : HD.Says w h K) (M : Mg (mkT K P w) mg) (tb : ∀ p ∈ lamD, LamX.TabB base mg (He.cT K p).1 (He.cT K p).2) (I : At K P w mg base d) {fd : FuncData} (Fd : FunD K d_turns.name d_turns.qual d_turns.params d_turns.body d_turns.scope (d_turns.dvs K) (d_turns.kws K) (d_turns.at_ K) fd) : FnOk P w K mg base (L2.CX P w) (5 * d + 5) (d_turns.at_ K) fd [("step" : Str), ("index" : Str), ("held" : Str)] (fun vs H Q E => vs.length = 3 ∧ spR (mkT K P w) (evFn 3 3 (e_turns (pgN d))) vs H Q E) :=
  fn_okD (T := mkT K P w) (k := 5 * d + 4) Fd sc_turns fun cdv A outer s H E hc lk hcd r => b_turns M (pat_N d) ((glo_ok c).bd I.fk I.fn sc_turns.nd r) ⟨kds_of hc, r⟩
theorem bd_turns {fd : FuncData} (Fd : FunD K d_turns.name d_turns.qual d_turns.params d_turns.body d_turns.scope (d_turns.dvs K) (d_turns.kws K) (d_turns.at_ K) fd) : Binds K fd [("step" : Str), ("index" : Str), ("held" : Str)] [] := FunD.bindsN Fd fun _ _ _ _ _ _ us hl => match us, hl with
  | [_, _, _], _ => rfl
theorem fs_turns (c : HD.Says w h K) (M : Mg (mkT K P w) mg) (tb : ∀ p ∈ lamD, LamX.TabB base mg (He.cT K p).1 (He.cT K p).2) (I : At K P w mg base d) : FnS (mkT K P w) P w mg base (5 * (d + 1)) (d_turns.at_ K) (evFn 3 3 (e_turns (pgN d))) := by
  obtain ⟨fd, Fd⟩ := c.dff 24 (d := d_turns)
  exact fn_raw (T := mkT K P w) (ok_turns c M tb I Fd) (bd_turns Fd)
theorem sc_start_of : FnScope N_start_of [("program" : Str)] (defScope s_start_of) := ⟨rfl, rfl, rfl, by decide +kernel, rfl, by decide +kernel, by decide +kernel⟩
theorem ok_start_of (c : HD.Says w h K) (M : Mg (mkT K P w) mg) (tb : ∀ p ∈ lamD, LamX.TabB base mg (He.cT K p).1 (He.cT K p).2) (I : At K P w mg base d) {fd : FuncData} (Fd : FunD K d_start_of.name d_start_of.qual d_start_of.params d_start_of.body d_start_of.scope (d_start_of.dvs K) (d_start_of.kws K) (d_start_of.at_ K) fd) : FnOk P w K mg base (L2.CX P w) (5 * d + 5) (d_start_of.at_ K) fd [("program" : Str)] (fun vs H Q E => vs.length = 1 ∧ spR (mkT K P w) (evFn 1 1 (e_start_of (pgN d))) vs H Q E) :=
  fn_okD (T := mkT K P w) (k := 5 * d + 4) Fd sc_start_of fun cdv A outer s H E hc lk hcd r => b_start_of M (pat_N d) ((glo_ok c).bd I.fk I.fn sc_start_of.nd r) ⟨kds_of hc, r⟩
theorem bd_start_of {fd : FuncData} (Fd : FunD K d_start_of.name d_start_of.qual d_start_of.params d_start_of.body d_start_of.scope (d_start_of.dvs K) (d_start_of.kws K) (d_start_of.at_ K) fd) : Binds K fd [("program" : Str)] [] := FunD.bindsN Fd fun _ _ _ _ _ _ us hl => match us, hl with
  | [_], _ => rfl
theorem fs_start_of (c : HD.Says w h K) (M : Mg (mkT K P w) mg) (tb : ∀ p ∈ lamD, LamX.TabB base mg (He.cT K p).1 (He.cT K p).2) (I : At K P w mg base d) : FnS (mkT K P w) P w mg base (5 * (d + 1)) (d_start_of.at_ K) (evFn 1 1 (e_start_of (pgN d))) := by
  obtain ⟨fd, Fd⟩ := c.dff 25 (d := d_start_of)
  exact fn_raw (T := mkT K P w) (ok_start_of c M tb I Fd) (bd_start_of Fd)
theorem sc_after : FnScope N_after [("program" : Str), ("stand" : Str)] (defScope s_after) := ⟨rfl, rfl, rfl, by decide +kernel, rfl, by decide +kernel, by decide +kernel⟩
theorem ok_after (c : HD.Says w h K) (M : Mg (mkT K P w) mg) (tb : ∀ p ∈ lamD, LamX.TabB base mg (He.cT K p).1 (He.cT K p).2) (I : At K P w mg base d) {fd : FuncData} (Fd : FunD K d_after.name d_after.qual d_after.params d_after.body d_after.scope (d_after.dvs K) (d_after.kws K) (d_after.at_ K) fd) : FnOk P w K mg base (L2.CX P w) (5 * d + 5) (d_after.at_ K) fd [("program" : Str), ("stand" : Str)] (fun vs H Q E => vs.length = 2 ∧ spR (mkT K P w) (evFn 2 9 (e_after (pgN d))) vs H Q E) :=
  fn_okD (T := mkT K P w) (k := 5 * d + 4) Fd sc_after fun cdv A outer s H E hc lk hcd r => b_after M (pat_N d) ((glo_ok c).bd I.fk I.fn sc_after.nd r) ⟨kds_of hc, r⟩
theorem bd_after {fd : FuncData} (Fd : FunD K d_after.name d_after.qual d_after.params d_after.body d_after.scope (d_after.dvs K) (d_after.kws K) (d_after.at_ K) fd) : Binds K fd [("program" : Str), ("stand" : Str)] [] := FunD.bindsN Fd fun _ _ _ _ _ _ us hl => match us, hl with
  | [_, _], _ => rfl
theorem fs_after (c : HD.Says w h K) (M : Mg (mkT K P w) mg) (tb : ∀ p ∈ lamD, LamX.TabB base mg (He.cT K p).1 (He.cT K p).2) (I : At K P w mg base d) : FnS (mkT K P w) P w mg base (5 * (d + 1)) (d_after.at_ K) (evFn 2 9 (e_after (pgN d))) := by
  obtain ⟨fd, Fd⟩ := c.dff 26 (d := d_after)
  exact fn_raw (T := mkT K P w) (ok_after c M tb I Fd) (bd_after Fd)
theorem sc_waste_of : FnScope N_waste_of [("stand" : Str)] (defScope s_waste_of) := ⟨rfl, rfl, rfl, by decide +kernel, rfl, by decide +kernel, by decide +kernel⟩
theorem ok_waste_of (c : HD.Says w h K) (M : Mg (mkT K P w) mg) (tb : ∀ p ∈ lamD, LamX.TabB base mg (He.cT K p).1 (He.cT K p).2) (I : At K P w mg base d) {fd : FuncData} (Fd : FunD K d_waste_of.name d_waste_of.qual d_waste_of.params d_waste_of.body d_waste_of.scope (d_waste_of.dvs K) (d_waste_of.kws K) (d_waste_of.at_ K) fd) : FnOk P w K mg base (L2.CX P w) (5 * d + 5) (d_waste_of.at_ K) fd [("stand" : Str)] (fun vs H Q E => vs.length = 1 ∧ spR (mkT K P w) (evFn 1 10 (e_waste_of (pgN d))) vs H Q E) :=
  fn_okD (T := mkT K P w) (k := 5 * d + 4) Fd sc_waste_of fun cdv A outer s H E hc lk hcd r => b_waste_of M (pat_N d) ((glo_ok c).bd I.fk I.fn sc_waste_of.nd r) ⟨kds_of hc, r⟩
theorem bd_waste_of {fd : FuncData} (Fd : FunD K d_waste_of.name d_waste_of.qual d_waste_of.params d_waste_of.body d_waste_of.scope (d_waste_of.dvs K) (d_waste_of.kws K) (d_waste_of.at_ K) fd) : Binds K fd [("stand" : Str)] [] := FunD.bindsN Fd fun _ _ _ _ _ _ us hl => match us, hl with
  | [_], _ => rfl
theorem fs_waste_of (c : HD.Says w h K) (M : Mg (mkT K P w) mg) (tb : ∀ p ∈ lamD, LamX.TabB base mg (He.cT K p).1 (He.cT K p).2) (I : At K P w mg base d) : FnS (mkT K P w) P w mg base (5 * (d + 1)) (d_waste_of.at_ K) (evFn 1 10 (e_waste_of (pgN d))) := by
  obtain ⟨fd, Fd⟩ := c.dff 27 (d := d_waste_of)
  exact fn_raw (T := mkT K P w) (ok_waste_of c M tb I Fd) (bd_waste_of Fd)
theorem sc_is_clear : FnScope N_is_clear [("program" : Str), ("stand" : Str)] (defScope s_is_clear) := ⟨rfl, rfl, rfl, by decide +kernel, rfl, by decide +kernel, by decide +kernel⟩
theorem ok_is_clear (c : HD.Says w h K) (M : Mg (mkT K P w) mg) (tb : ∀ p ∈ lamD, LamX.TabB base mg (He.cT K p).1 (He.cT K p).2) (I : At K P w mg base d) {fd : FuncData} (Fd : FunD K d_is_clear.name d_is_clear.qual d_is_clear.params d_is_clear.body d_is_clear.scope (d_is_clear.dvs K) (d_is_clear.kws K) (d_is_clear.at_ K) fd) : FnOk P w K mg base (L2.CX P w) (5 * d + 5) (d_is_clear.at_ K) fd [("program" : Str), ("stand" : Str)] (fun vs H Q E => vs.length = 2 ∧ spR (mkT K P w) (evFn 2 2 (e_is_clear (pgN d))) vs H Q E) :=
  fn_okD (T := mkT K P w) (k := 5 * d + 4) Fd sc_is_clear fun cdv A outer s H E hc lk hcd r => b_is_clear M (pat_N d) ((glo_ok c).bd I.fk I.fn sc_is_clear.nd r) ⟨kds_of hc, r⟩
theorem bd_is_clear {fd : FuncData} (Fd : FunD K d_is_clear.name d_is_clear.qual d_is_clear.params d_is_clear.body d_is_clear.scope (d_is_clear.dvs K) (d_is_clear.kws K) (d_is_clear.at_ K) fd) : Binds K fd [("program" : Str), ("stand" : Str)] [] := FunD.bindsN Fd fun _ _ _ _ _ _ us hl => match us, hl with
  | [_, _], _ => rfl
theorem fs_is_clear (c : HD.Says w h K) (M : Mg (mkT K P w) mg) (tb : ∀ p ∈ lamD, LamX.TabB base mg (He.cT K p).1 (He.cT K p).2) (I : At K P w mg base d) : FnS (mkT K P w) P w mg base (5 * (d + 1)) (d_is_clear.at_ K) (evFn 2 2 (e_is_clear (pgN d))) := by
  obtain ⟨fd, Fd⟩ := c.dff 28 (d := d_is_clear)
  exact fn_raw (T := mkT K P w) (ok_is_clear c M tb I Fd) (bd_is_clear Fd)
theorem sc_later_of : FnScope N_later_of [("program" : Str), ("stand" : Str), ("index" : Str)] (defScope s_later_of) := ⟨rfl, rfl, rfl, by decide +kernel, rfl, by decide +kernel, by decide +kernel⟩
theorem ok_later_of (c : HD.Says w h K) (M : Mg (mkT K P w) mg) (tb : ∀ p ∈ lamD, LamX.TabB base mg (He.cT K p).1 (He.cT K p).2) (I : At K P w mg base d) {fd : FuncData} (Fd : FunD K d_later_of.name d_later_of.qual d_later_of.params d_later_of.body d_later_of.scope (d_later_of.dvs K) (d_later_of.kws K) (d_later_of.at_ K) fd) : FnOk P w K mg base (L2.CX P w) (5 * d + 5) (d_later_of.at_ K) fd [("program" : Str), ("stand" : Str), ("index" : Str)] (fun vs H Q E => vs.length = 3 ∧ spR (mkT K P w) (evFn 3 5 (e_later_of (pgN d))) vs H Q E) :=
  fn_okD (T := mkT K P w) (k := 5 * d + 4) Fd sc_later_of fun cdv A outer s H E hc lk hcd r => b_later_of M (pat_N d) ((glo_ok c).bd I.fk I.fn sc_later_of.nd r) ⟨kds_of hc, r⟩
theorem bd_later_of {fd : FuncData} (Fd : FunD K d_later_of.name d_later_of.qual d_later_of.params d_later_of.body d_later_of.scope (d_later_of.dvs K) (d_later_of.kws K) (d_later_of.at_ K) fd) : Binds K fd [("program" : Str), ("stand" : Str), ("index" : Str)] [] := FunD.bindsN Fd fun _ _ _ _ _ _ us hl => match us, hl with
  | [_, _, _], _ => rfl
theorem fs_later_of (c : HD.Says w h K) (M : Mg (mkT K P w) mg) (tb : ∀ p ∈ lamD, LamX.TabB base mg (He.cT K p).1 (He.cT K p).2) (I : At K P w mg base d) : FnS (mkT K P w) P w mg base (5 * (d + 1)) (d_later_of.at_ K) (evFn 3 5 (e_later_of (pgN d))) := by
  obtain ⟨fd, Fd⟩ := c.dff 29 (d := d_later_of)
  exact fn_raw (T := mkT K P w) (ok_later_of c M tb I Fd) (bd_later_of Fd)
theorem sc_followed : FnScope N_followed [("program" : Str), ("path" : Str)] (defScope s_followed) := ⟨rfl, rfl, rfl, by decide +kernel, rfl, by decide +kernel, by decide +kernel⟩
theorem ok_followed (c : HD.Says w h K) (M : Mg (mkT K P w) mg) (tb : ∀ p ∈ lamD, LamX.TabB base mg (He.cT K p).1 (He.cT K p).2) (I : At K P w mg base d) {fd : FuncData} (Fd : FunD K d_followed.name d_followed.qual d_followed.params d_followed.body d_followed.scope (d_followed.dvs K) (d_followed.kws K) (d_followed.at_ K) fd) : FnOk P w K mg base (L2.CX P w) (5 * d + 5) (d_followed.at_ K) fd [("program" : Str), ("path" : Str)] (fun vs H Q E => vs.length = 2 ∧ spR (mkT K P w) (evFn 2 7 (e_followed (pgN d))) vs H Q E) :=
  fn_okD (T := mkT K P w) (k := 5 * d + 4) Fd sc_followed fun cdv A outer s H E hc lk hcd r => b_followed M (pat_N d) ((glo_ok c).bd I.fk I.fn sc_followed.nd r) ⟨kds_of hc, r⟩
theorem bd_followed {fd : FuncData} (Fd : FunD K d_followed.name d_followed.qual d_followed.params d_followed.body d_followed.scope (d_followed.dvs K) (d_followed.kws K) (d_followed.at_ K) fd) : Binds K fd [("program" : Str), ("path" : Str)] [] := FunD.bindsN Fd fun _ _ _ _ _ _ us hl => match us, hl with
  | [_, _], _ => rfl
theorem fs_followed (c : HD.Says w h K) (M : Mg (mkT K P w) mg) (tb : ∀ p ∈ lamD, LamX.TabB base mg (He.cT K p).1 (He.cT K p).2) (I : At K P w mg base d) : FnS (mkT K P w) P w mg base (5 * (d + 1)) (d_followed.at_ K) (evFn 2 7 (e_followed (pgN d))) := by
  obtain ⟨fd, Fd⟩ := c.dff 30 (d := d_followed)
  exact fn_raw (T := mkT K P w) (ok_followed c M tb I Fd) (bd_followed Fd)
theorem sc_stands : FnScope N_stands [("program" : Str), ("path" : Str)] (defScope s_stands) := ⟨rfl, rfl, rfl, by decide +kernel, rfl, by decide +kernel, by decide +kernel⟩
theorem ok_stands (c : HD.Says w h K) (M : Mg (mkT K P w) mg) (tb : ∀ p ∈ lamD, LamX.TabB base mg (He.cT K p).1 (He.cT K p).2) (I : At K P w mg base d) {fd : FuncData} (Fd : FunD K d_stands.name d_stands.qual d_stands.params d_stands.body d_stands.scope (d_stands.dvs K) (d_stands.kws K) (d_stands.at_ K) fd) : FnOk P w K mg base (L2.CX P w) (5 * d + 5) (d_stands.at_ K) fd [("program" : Str), ("path" : Str)] (fun vs H Q E => vs.length = 2 ∧ spR (mkT K P w) (evFn 2 4 (e_stands (pgN d))) vs H Q E) :=
  fn_okD (T := mkT K P w) (k := 5 * d + 4) Fd sc_stands fun cdv A outer s H E hc lk hcd r => b_stands M (pat_N d) ((glo_ok c).bd I.fk I.fn sc_stands.nd r) ⟨kds_of hc, r⟩
theorem bd_stands {fd : FuncData} (Fd : FunD K d_stands.name d_stands.qual d_stands.params d_stands.body d_stands.scope (d_stands.dvs K) (d_stands.kws K) (d_stands.at_ K) fd) : Binds K fd [("program" : Str), ("path" : Str)] [] := FunD.bindsN Fd fun _ _ _ _ _ _ us hl => match us, hl with
  | [_, _], _ => rfl
theorem fs_stands (c : HD.Says w h K) (M : Mg (mkT K P w) mg) (tb : ∀ p ∈ lamD, LamX.TabB base mg (He.cT K p).1 (He.cT K p).2) (I : At K P w mg base d) : FnS (mkT K P w) P w mg base (5 * (d + 1)) (d_stands.at_ K) (evFn 2 4 (e_stands (pgN d))) := by
  obtain ⟨fd, Fd⟩ := c.dff 31 (d := d_stands)
  exact fn_raw (T := mkT K P w) (ok_stands c M tb I Fd) (bd_stands Fd)
theorem sc_Way_init : FnScope N_Way_init [("self" : Str), ("path" : Str)] (defScope s_Way_init) := ⟨rfl, rfl, rfl, by decide +kernel, rfl, by decide +kernel, by decide +kernel⟩
theorem ok_Way_init (c : HD.Says w h K) (M : Mg (mkT K P w) mg) (tb : ∀ p ∈ lamD, LamX.TabB base mg (He.cT K p).1 (He.cT K p).2) (I : At K P w mg base d) {fd : FuncData} (Fd : FunD K d_Way_init.name d_Way_init.qual d_Way_init.params d_Way_init.body d_Way_init.scope (d_Way_init.dvs K) (d_Way_init.kws K) (d_Way_init.at_ K) fd) : FnOk P w K mg base (L2.CX P w) (5 * d + 5) (d_Way_init.at_ K) fd [("self" : Str), ("path" : Str)] (fun vs H Q E => vs.length = 2 ∧ spR (mkT K P w) (evFn 2 2 (e_Way_init (pgN d))) vs H Q E) :=
  fn_okD (T := mkT K P w) (k := 5 * d + 4) Fd sc_Way_init fun cdv A outer s H E hc lk hcd r => b_Way_init M (pat_N d) ((glo_ok c).bd I.fk I.fn sc_Way_init.nd r) ⟨kds_of hc, r⟩
theorem bd_Way_init {fd : FuncData} (Fd : FunD K d_Way_init.name d_Way_init.qual d_Way_init.params d_Way_init.body d_Way_init.scope (d_Way_init.dvs K) (d_Way_init.kws K) (d_Way_init.at_ K) fd) : Binds K fd [("self" : Str), ("path" : Str)] [] := FunD.bindsN Fd fun _ _ _ _ _ _ us hl => match us, hl with
  | [_, _], _ => rfl
theorem fs_Way_init (c : HD.Says w h K) (M : Mg (mkT K P w) mg) (tb : ∀ p ∈ lamD, LamX.TabB base mg (He.cT K p).1 (He.cT K p).2) (I : At K P w mg base d) : FnS (mkT K P w) P w mg base (5 * (d + 1)) (d_Way_init.at_ K) (evFn 2 2 (e_Way_init (pgN d))) := by
  obtain ⟨fd, Fd⟩ := c.dff 32 (d := d_Way_init)
  exact fn_raw (T := mkT K P w) (ok_Way_init c M tb I Fd) (bd_Way_init Fd)
theorem sc_Way_end : FnScope N_Way_end [("self" : Str), ("program" : Str)] (defScope s_Way_end) := ⟨rfl, rfl, rfl, by decide +kernel, rfl, by decide +kernel, by decide +kernel⟩
theorem ok_Way_end (c : HD.Says w h K) (M : Mg (mkT K P w) mg) (tb : ∀ p ∈ lamD, LamX.TabB base mg (He.cT K p).1 (He.cT K p).2) (I : At K P w mg base d) {fd : FuncData} (Fd : FunD K d_Way_end.name d_Way_end.qual d_Way_end.params d_Way_end.body d_Way_end.scope (d_Way_end.dvs K) (d_Way_end.kws K) (d_Way_end.at_ K) fd) : FnOk P w K mg base (L2.CX P w) (5 * d + 5) (d_Way_end.at_ K) fd [("self" : Str), ("program" : Str)] (fun vs H Q E => vs.length = 2 ∧ spR (mkT K P w) (evFn 2 3 (e_Way_end (pgN d))) vs H Q E) :=
  fn_okD (T := mkT K P w) (k := 5 * d + 4) Fd sc_Way_end fun cdv A outer s H E hc lk hcd r => b_Way_end M (pat_N d) ((glo_ok c).bd I.fk I.fn sc_Way_end.nd r) ⟨kds_of hc, r⟩
theorem bd_Way_end {fd : FuncData} (Fd : FunD K d_Way_end.name d_Way_end.qual d_Way_end.params d_Way_end.body d_Way_end.scope (d_Way_end.dvs K) (d_Way_end.kws K) (d_Way_end.at_ K) fd) : Binds K fd [("self" : Str), ("program" : Str)] [] := FunD.bindsN Fd fun _ _ _ _ _ _ us hl => match us, hl with
  | [_, _], _ => rfl
theorem fs_Way_end (c : HD.Says w h K) (M : Mg (mkT K P w) mg) (tb : ∀ p ∈ lamD, LamX.TabB base mg (He.cT K p).1 (He.cT K p).2) (I : At K P w mg base d) : FnS (mkT K P w) P w mg base (5 * (d + 1)) (d_Way_end.at_ K) (evFn 2 3 (e_Way_end (pgN d))) := by
  obtain ⟨fd, Fd⟩ := c.dff 33 (d := d_Way_end)
  exact fn_raw (T := mkT K P w) (ok_Way_end c M tb I Fd) (bd_Way_end Fd)
theorem sc_walked : FnScope N_walked [("program" : Str), ("path" : Str)] (defScope s_walked) := ⟨rfl, rfl, rfl, by decide +kernel, rfl, by decide +kernel, by decide +kernel⟩
theorem ok_walked (c : HD.Says w h K) (M : Mg (mkT K P w) mg) (tb : ∀ p ∈ lamD, LamX.TabB base mg (He.cT K p).1 (He.cT K p).2) (I : At K P w mg base d) {fd : FuncData} (Fd : FunD K d_walked.name d_walked.qual d_walked.params d_walked.body d_walked.scope (d_walked.dvs K) (d_walked.kws K) (d_walked.at_ K) fd) : FnOk P w K mg base (L2.CX P w) (5 * d + 5) (d_walked.at_ K) fd [("program" : Str), ("path" : Str)] (fun vs H Q E => vs.length = 2 ∧ spR (mkT K P w) (evFn 2 2 (e_walked (pgN d))) vs H Q E) :=
  fn_okD (T := mkT K P w) (k := 5 * d + 4) Fd sc_walked fun cdv A outer s H E hc lk hcd r => b_walked M (pat_N d) ((glo_ok c).bd I.fk I.fn sc_walked.nd r) ⟨kds_of hc, r⟩
theorem bd_walked {fd : FuncData} (Fd : FunD K d_walked.name d_walked.qual d_walked.params d_walked.body d_walked.scope (d_walked.dvs K) (d_walked.kws K) (d_walked.at_ K) fd) : Binds K fd [("program" : Str), ("path" : Str)] [] := FunD.bindsN Fd fun _ _ _ _ _ _ us hl => match us, hl with
  | [_, _], _ => rfl
theorem fs_walked (c : HD.Says w h K) (M : Mg (mkT K P w) mg) (tb : ∀ p ∈ lamD, LamX.TabB base mg (He.cT K p).1 (He.cT K p).2) (I : At K P w mg base d) : FnS (mkT K P w) P w mg base (5 * (d + 1)) (d_walked.at_ K) (evFn 2 2 (e_walked (pgN d))) := by
  obtain ⟨fd, Fd⟩ := c.dff 34 (d := d_walked)
  exact fn_raw (T := mkT K P w) (ok_walked c M tb I Fd) (bd_walked Fd)
theorem sc_are_heights : FnScope N_are_heights [("program" : Str), ("heights" : Str), ("number" : Str)] (defScope s_are_heights) := ⟨rfl, rfl, rfl, by decide +kernel, rfl, by decide +kernel, by decide +kernel⟩
theorem ok_are_heights (c : HD.Says w h K) (M : Mg (mkT K P w) mg) (tb : ∀ p ∈ lamD, LamX.TabB base mg (He.cT K p).1 (He.cT K p).2) (I : At K P w mg base d) {fd : FuncData} (Fd : FunD K d_are_heights.name d_are_heights.qual d_are_heights.params d_are_heights.body d_are_heights.scope (d_are_heights.dvs K) (d_are_heights.kws K) (d_are_heights.at_ K) fd) : FnOk P w K mg base (L2.CX P w) (5 * d + 5) (d_are_heights.at_ K) fd [("program" : Str), ("heights" : Str), ("number" : Str)] (fun vs H Q E => vs.length = 3 ∧ spR (mkT K P w) (evFn 3 7 (e_are_heights (pgN d))) vs H Q E) :=
  fn_okD (T := mkT K P w) (k := 5 * d + 4) Fd sc_are_heights fun cdv A outer s H E hc lk hcd r => b_are_heights M (pat_N d) ((glo_ok c).bd I.fk I.fn sc_are_heights.nd r) ⟨kds_of hc, r⟩
theorem bd_are_heights {fd : FuncData} (Fd : FunD K d_are_heights.name d_are_heights.qual d_are_heights.params d_are_heights.body d_are_heights.scope (d_are_heights.dvs K) (d_are_heights.kws K) (d_are_heights.at_ K) fd) : Binds K fd [("program" : Str), ("heights" : Str), ("number" : Str)] [] := FunD.bindsN Fd fun _ _ _ _ _ _ us hl => match us, hl with
  | [_, _, _], _ => rfl
theorem fs_are_heights (c : HD.Says w h K) (M : Mg (mkT K P w) mg) (tb : ∀ p ∈ lamD, LamX.TabB base mg (He.cT K p).1 (He.cT K p).2) (I : At K P w mg base d) : FnS (mkT K P w) P w mg base (5 * (d + 1)) (d_are_heights.at_ K) (evFn 3 7 (e_are_heights (pgN d))) := by
  obtain ⟨fd, Fd⟩ := c.dff 35 (d := d_are_heights)
  exact fn_raw (T := mkT K P w) (ok_are_heights c M tb I Fd) (bd_are_heights Fd)
theorem sc_AtMost_init : FnScope N_AtMost_init [("self" : Str), ("number" : Str), ("path" : Str), ("heights" : Str)] (defScope s_AtMost_init) := ⟨rfl, rfl, rfl, by decide +kernel, rfl, by decide +kernel, by decide +kernel⟩
theorem ok_AtMost_init (c : HD.Says w h K) (M : Mg (mkT K P w) mg) (tb : ∀ p ∈ lamD, LamX.TabB base mg (He.cT K p).1 (He.cT K p).2) (I : At K P w mg base d) {fd : FuncData} (Fd : FunD K d_AtMost_init.name d_AtMost_init.qual d_AtMost_init.params d_AtMost_init.body d_AtMost_init.scope (d_AtMost_init.dvs K) (d_AtMost_init.kws K) (d_AtMost_init.at_ K) fd) : FnOk P w K mg base (L2.CX P w) (5 * d + 5) (d_AtMost_init.at_ K) fd [("self" : Str), ("number" : Str), ("path" : Str), ("heights" : Str)] (fun vs H Q E => vs.length = 4 ∧ spR (mkT K P w) (evFn 4 5 (e_AtMost_init (pgN d))) vs H Q E) :=
  fn_okD (T := mkT K P w) (k := 5 * d + 4) Fd sc_AtMost_init fun cdv A outer s H E hc lk hcd r => b_AtMost_init M (pat_N d) ((glo_ok c).bd I.fk I.fn sc_AtMost_init.nd r) ⟨kds_of hc, r⟩
theorem bd_AtMost_init {fd : FuncData} (Fd : FunD K d_AtMost_init.name d_AtMost_init.qual d_AtMost_init.params d_AtMost_init.body d_AtMost_init.scope (d_AtMost_init.dvs K) (d_AtMost_init.kws K) (d_AtMost_init.at_ K) fd) : Binds K fd [("self" : Str), ("number" : Str), ("path" : Str), ("heights" : Str)] [] := FunD.bindsN Fd fun _ _ _ _ _ _ us hl => match us, hl with
  | [_, _, _, _], _ => rfl
theorem fs_AtMost_init (c : HD.Says w h K) (M : Mg (mkT K P w) mg) (tb : ∀ p ∈ lamD, LamX.TabB base mg (He.cT K p).1 (He.cT K p).2) (I : At K P w mg base d) : FnS (mkT K P w) P w mg base (5 * (d + 1)) (d_AtMost_init.at_ K) (evFn 4 5 (e_AtMost_init (pgN d))) := by
  obtain ⟨fd, Fd⟩ := c.dff 36 (d := d_AtMost_init)
  exact fn_raw (T := mkT K P w) (ok_AtMost_init c M tb I Fd) (bd_AtMost_init Fd)
theorem sc_AtMost_eq : FnScope N_AtMost_eq [("self" : Str), ("other" : Str)] (defScope s_AtMost_eq) := ⟨rfl, rfl, rfl, by decide +kernel, rfl, by decide +kernel, by decide +kernel⟩
theorem ok_AtMost_eq (c : HD.Says w h K) (M : Mg (mkT K P w) mg) (tb : ∀ p ∈ lamD, LamX.TabB base mg (He.cT K p).1 (He.cT K p).2) (I : At K P w mg base d) {fd : FuncData} (Fd : FunD K d_AtMost_eq.name d_AtMost_eq.qual d_AtMost_eq.params d_AtMost_eq.body d_AtMost_eq.scope (d_AtMost_eq.dvs K) (d_AtMost_eq.kws K) (d_AtMost_eq.at_ K) fd) : FnOk P w K mg base (L2.CX P w) (5 * d + 5) (d_AtMost_eq.at_ K) fd [("self" : Str), ("other" : Str)] (fun vs H Q E => vs.length = 2 ∧ spR (mkT K P w) (evFn 2 2 (e_AtMost_eq (pgN d))) vs H Q E) :=
  fn_okD (T := mkT K P w) (k := 5 * d + 4) Fd sc_AtMost_eq fun cdv A outer s H E hc lk hcd r => b_AtMost_eq M (pat_N d) ((glo_ok c).bd I.fk I.fn sc_AtMost_eq.nd r) ⟨kds_of hc, r⟩
theorem bd_AtMost_eq {fd : FuncData} (Fd : FunD K d_AtMost_eq.name d_AtMost_eq.qual d_AtMost_eq.params d_AtMost_eq.body d_AtMost_eq.scope (d_AtMost_eq.dvs K) (d_AtMost_eq.kws K) (d_AtMost_eq.at_ K) fd) : Binds K fd [("self" : Str), ("other" : Str)] [] := FunD.bindsN Fd fun _ _ _ _ _ _ us hl => match us, hl with
  | [_, _], _ => rfl
theorem fs_AtMost_eq (c : HD.Says w h K) (M : Mg (mkT K P w) mg) (tb : ∀ p ∈ lamD, LamX.TabB base mg (He.cT K p).1 (He.cT K p).2) (I : At K P w mg base d) : FnS (mkT K P w) P w mg base (5 * (d + 1)) (d_AtMost_eq.at_ K) (evFn 2 2 (e_AtMost_eq (pgN d))) := by
  obtain ⟨fd, Fd⟩ := c.dff 37 (d := d_AtMost_eq)
  exact fn_raw (T := mkT K P w) (ok_AtMost_eq c M tb I Fd) (bd_AtMost_eq Fd)
theorem sc_AtMost_shows : FnScope N_AtMost_shows [("self" : Str), ("program" : Str)] (defScope s_AtMost_shows) := ⟨rfl, rfl, rfl, by decide +kernel, rfl, by decide +kernel, by decide +kernel⟩
theorem ok_AtMost_shows (c : HD.Says w h K) (M : Mg (mkT K P w) mg) (tb : ∀ p ∈ lamD, LamX.TabB base mg (He.cT K p).1 (He.cT K p).2) (I : At K P w mg base d) {fd : FuncData} (Fd : FunD K d_AtMost_shows.name d_AtMost_shows.qual d_AtMost_shows.params d_AtMost_shows.body d_AtMost_shows.scope (d_AtMost_shows.dvs K) (d_AtMost_shows.kws K) (d_AtMost_shows.at_ K) fd) : FnOk P w K mg base (L2.CX P w) (5 * d + 5) (d_AtMost_shows.at_ K) fd [("self" : Str), ("program" : Str)] (fun vs H Q E => vs.length = 2 ∧ spR (mkT K P w) (evFn 2 3 (e_AtMost_shows (pgN d))) vs H Q E) :=
  fn_okD (T := mkT K P w) (k := 5 * d + 4) Fd sc_AtMost_shows fun cdv A outer s H E hc lk hcd r => b_AtMost_shows M (pat_N d) ((glo_ok c).bd I.fk I.fn sc_AtMost_shows.nd r) ⟨kds_of hc, r⟩
theorem bd_AtMost_shows {fd : FuncData} (Fd : FunD K d_AtMost_shows.name d_AtMost_shows.qual d_AtMost_shows.params d_AtMost_shows.body d_AtMost_shows.scope (d_AtMost_shows.dvs K) (d_AtMost_shows.kws K) (d_AtMost_shows.at_ K) fd) : Binds K fd [("self" : Str), ("program" : Str)] [] := FunD.bindsN Fd fun _ _ _ _ _ _ us hl => match us, hl with
  | [_, _], _ => rfl
theorem fs_AtMost_shows (c : HD.Says w h K) (M : Mg (mkT K P w) mg) (tb : ∀ p ∈ lamD, LamX.TabB base mg (He.cT K p).1 (He.cT K p).2) (I : At K P w mg base d) : FnS (mkT K P w) P w mg base (5 * (d + 1)) (d_AtMost_shows.at_ K) (evFn 2 3 (e_AtMost_shows (pgN d))) := by
  obtain ⟨fd, Fd⟩ := c.dff 38 (d := d_AtMost_shows)
  exact fn_raw (T := mkT K P w) (ok_AtMost_shows c M tb I Fd) (bd_AtMost_shows Fd)
theorem sc_NoBound_init : FnScope N_NoBound_init [("self" : Str), ("path" : Str), ("ring" : Str)] (defScope s_NoBound_init) := ⟨rfl, rfl, rfl, by decide +kernel, rfl, by decide +kernel, by decide +kernel⟩
theorem ok_NoBound_init (c : HD.Says w h K) (M : Mg (mkT K P w) mg) (tb : ∀ p ∈ lamD, LamX.TabB base mg (He.cT K p).1 (He.cT K p).2) (I : At K P w mg base d) {fd : FuncData} (Fd : FunD K d_NoBound_init.name d_NoBound_init.qual d_NoBound_init.params d_NoBound_init.body d_NoBound_init.scope (d_NoBound_init.dvs K) (d_NoBound_init.kws K) (d_NoBound_init.at_ K) fd) : FnOk P w K mg base (L2.CX P w) (5 * d + 5) (d_NoBound_init.at_ K) fd [("self" : Str), ("path" : Str), ("ring" : Str)] (fun vs H Q E => vs.length = 3 ∧ spR (mkT K P w) (evFn 3 3 (e_NoBound_init (pgN d))) vs H Q E) :=
  fn_okD (T := mkT K P w) (k := 5 * d + 4) Fd sc_NoBound_init fun cdv A outer s H E hc lk hcd r => b_NoBound_init M (pat_N d) ((glo_ok c).bd I.fk I.fn sc_NoBound_init.nd r) ⟨kds_of hc, r⟩
theorem bd_NoBound_init {fd : FuncData} (Fd : FunD K d_NoBound_init.name d_NoBound_init.qual d_NoBound_init.params d_NoBound_init.body d_NoBound_init.scope (d_NoBound_init.dvs K) (d_NoBound_init.kws K) (d_NoBound_init.at_ K) fd) : Binds K fd [("self" : Str), ("path" : Str), ("ring" : Str)] [] := FunD.bindsN Fd fun _ _ _ _ _ _ us hl => match us, hl with
  | [_, _, _], _ => rfl
theorem fs_NoBound_init (c : HD.Says w h K) (M : Mg (mkT K P w) mg) (tb : ∀ p ∈ lamD, LamX.TabB base mg (He.cT K p).1 (He.cT K p).2) (I : At K P w mg base d) : FnS (mkT K P w) P w mg base (5 * (d + 1)) (d_NoBound_init.at_ K) (evFn 3 3 (e_NoBound_init (pgN d))) := by
  obtain ⟨fd, Fd⟩ := c.dff 39 (d := d_NoBound_init)
  exact fn_raw (T := mkT K P w) (ok_NoBound_init c M tb I Fd) (bd_NoBound_init Fd)
theorem sc_NoBound_eq : FnScope N_NoBound_eq [("self" : Str), ("other" : Str)] (defScope s_NoBound_eq) := ⟨rfl, rfl, rfl, by decide +kernel, rfl, by decide +kernel, by decide +kernel⟩
theorem ok_NoBound_eq (c : HD.Says w h K) (M : Mg (mkT K P w) mg) (tb : ∀ p ∈ lamD, LamX.TabB base mg (He.cT K p).1 (He.cT K p).2) (I : At K P w mg base d) {fd : FuncData} (Fd : FunD K d_NoBound_eq.name d_NoBound_eq.qual d_NoBound_eq.params d_NoBound_eq.body d_NoBound_eq.scope (d_NoBound_eq.dvs K) (d_NoBound_eq.kws K) (d_NoBound_eq.at_ K) fd) : FnOk P w K mg base (L2.CX P w) (5 * d + 5) (d_NoBound_eq.at_ K) fd [("self" : Str), ("other" : Str)] (fun vs H Q E => vs.length = 2 ∧ spR (mkT K P w) (evFn 2 2 (e_NoBound_eq (pgN d))) vs H Q E) :=
  fn_okD (T := mkT K P w) (k := 5 * d + 4) Fd sc_NoBound_eq fun cdv A outer s H E hc lk hcd r => b_NoBound_eq M (pat_N d) ((glo_ok c).bd I.fk I.fn sc_NoBound_eq.nd r) ⟨kds_of hc, r⟩
theorem bd_NoBound_eq {fd : FuncData} (Fd : FunD K d_NoBound_eq.name d_NoBound_eq.qual d_NoBound_eq.params d_NoBound_eq.body d_NoBound_eq.scope (d_NoBound_eq.dvs K) (d_NoBound_eq.kws K) (d_NoBound_eq.at_ K) fd) : Binds K fd [("self" : Str), ("other" : Str)] [] := FunD.bindsN Fd fun _ _ _ _ _ _ us hl => match us, hl with
  | [_, _], _ => rfl
theorem fs_NoBound_eq (c : HD.Says w h K) (M : Mg (mkT K P w) mg) (tb : ∀ p ∈ lamD, LamX.TabB base mg (He.cT K p).1 (He.cT K p).2) (I : At K P w mg base d) : FnS (mkT K P w) P w mg base (5 * (d + 1)) (d_NoBound_eq.at_ K) (evFn 2 2 (e_NoBound_eq (pgN d))) := by
  obtain ⟨fd, Fd⟩ := c.dff 40 (d := d_NoBound_eq)
  exact fn_raw (T := mkT K P w) (ok_NoBound_eq c M tb I Fd) (bd_NoBound_eq Fd)
theorem sc_NoBound_shows : FnScope N_NoBound_shows [("self" : Str), ("program" : Str)] (defScope s_NoBound_shows) := ⟨rfl, rfl, rfl, by decide +kernel, rfl, by decide +kernel, by decide +kernel⟩
theorem ok_NoBound_shows (c : HD.Says w h K) (M : Mg (mkT K P w) mg) (tb : ∀ p ∈ lamD, LamX.TabB base mg (He.cT K p).1 (He.cT K p).2) (I : At K P w mg base d) {fd : FuncData} (Fd : FunD K d_NoBound_shows.name d_NoBound_shows.qual d_NoBound_shows.params d_NoBound_shows.body d_NoBound_shows.scope (d_NoBound_shows.dvs K) (d_NoBound_shows.kws K) (d_NoBound_shows.at_ K) fd) : FnOk P w K mg base (L2.CX P w) (5 * d + 5) (d_NoBound_shows.at_ K) fd [("self" : Str), ("program" : Str)] (fun vs H Q E => vs.length = 2 ∧ spR (mkT K P w) (evFn 2 5 (e_NoBound_shows (pgN d))) vs H Q E) :=
  fn_okD (T := mkT K P w) (k := 5 * d + 4) Fd sc_NoBound_shows fun cdv A outer s H E hc lk hcd r => b_NoBound_shows M (pat_N d) ((glo_ok c).bd I.fk I.fn sc_NoBound_shows.nd r) ⟨kds_of hc, r⟩
theorem bd_NoBound_shows {fd : FuncData} (Fd : FunD K d_NoBound_shows.name d_NoBound_shows.qual d_NoBound_shows.params d_NoBound_shows.body d_NoBound_shows.scope (d_NoBound_shows.dvs K) (d_NoBound_shows.kws K) (d_NoBound_shows.at_ K) fd) : Binds K fd [("self" : Str), ("program" : Str)] [] := FunD.bindsN Fd fun _ _ _ _ _ _ us hl => match us, hl with
  | [_, _], _ => rfl
theorem fs_NoBound_shows (c : HD.Says w h K) (M : Mg (mkT K P w) mg) (tb : ∀ p ∈ lamD, LamX.TabB base mg (He.cT K p).1 (He.cT K p).2) (I : At K P w mg base d) : FnS (mkT K P w) P w mg base (5 * (d + 1)) (d_NoBound_shows.at_ K) (evFn 2 5 (e_NoBound_shows (pgN d))) := by
  obtain ⟨fd, Fd⟩ := c.dff 41 (d := d_NoBound_shows)
  exact fn_raw (T := mkT K P w) (ok_NoBound_shows c M tb I Fd) (bd_NoBound_shows Fd)
theorem sc_Over_init : FnScope N_Over_init [("self" : Str), ("path" : Str)] (defScope s_Over_init) := ⟨rfl, rfl, rfl, by decide +kernel, rfl, by decide +kernel, by decide +kernel⟩
theorem ok_Over_init (c : HD.Says w h K) (M : Mg (mkT K P w) mg) (tb : ∀ p ∈ lamD, LamX.TabB base mg (He.cT K p).1 (He.cT K p).2) (I : At K P w mg base d) {fd : FuncData} (Fd : FunD K d_Over_init.name d_Over_init.qual d_Over_init.params d_Over_init.body d_Over_init.scope (d_Over_init.dvs K) (d_Over_init.kws K) (d_Over_init.at_ K) fd) : FnOk P w K mg base (L2.CX P w) (5 * d + 5) (d_Over_init.at_ K) fd [("self" : Str), ("path" : Str)] (fun vs H Q E => vs.length = 2 ∧ spR (mkT K P w) (evFn 2 2 (e_Over_init (pgN d))) vs H Q E) :=
  fn_okD (T := mkT K P w) (k := 5 * d + 4) Fd sc_Over_init fun cdv A outer s H E hc lk hcd r => b_Over_init M (pat_N d) ((glo_ok c).bd I.fk I.fn sc_Over_init.nd r) ⟨kds_of hc, r⟩
theorem bd_Over_init {fd : FuncData} (Fd : FunD K d_Over_init.name d_Over_init.qual d_Over_init.params d_Over_init.body d_Over_init.scope (d_Over_init.dvs K) (d_Over_init.kws K) (d_Over_init.at_ K) fd) : Binds K fd [("self" : Str), ("path" : Str)] [] := FunD.bindsN Fd fun _ _ _ _ _ _ us hl => match us, hl with
  | [_, _], _ => rfl
theorem fs_Over_init (c : HD.Says w h K) (M : Mg (mkT K P w) mg) (tb : ∀ p ∈ lamD, LamX.TabB base mg (He.cT K p).1 (He.cT K p).2) (I : At K P w mg base d) : FnS (mkT K P w) P w mg base (5 * (d + 1)) (d_Over_init.at_ K) (evFn 2 2 (e_Over_init (pgN d))) := by
  obtain ⟨fd, Fd⟩ := c.dff 42 (d := d_Over_init)
  exact fn_raw (T := mkT K P w) (ok_Over_init c M tb I Fd) (bd_Over_init Fd)
theorem sc_Over_eq : FnScope N_Over_eq [("self" : Str), ("other" : Str)] (defScope s_Over_eq) := ⟨rfl, rfl, rfl, by decide +kernel, rfl, by decide +kernel, by decide +kernel⟩
theorem ok_Over_eq (c : HD.Says w h K) (M : Mg (mkT K P w) mg) (tb : ∀ p ∈ lamD, LamX.TabB base mg (He.cT K p).1 (He.cT K p).2) (I : At K P w mg base d) {fd : FuncData} (Fd : FunD K d_Over_eq.name d_Over_eq.qual d_Over_eq.params d_Over_eq.body d_Over_eq.scope (d_Over_eq.dvs K) (d_Over_eq.kws K) (d_Over_eq.at_ K) fd) : FnOk P w K mg base (L2.CX P w) (5 * d + 5) (d_Over_eq.at_ K) fd [("self" : Str), ("other" : Str)] (fun vs H Q E => vs.length = 2 ∧ spR (mkT K P w) (evFn 2 2 (e_Over_eq (pgN d))) vs H Q E) :=
  fn_okD (T := mkT K P w) (k := 5 * d + 4) Fd sc_Over_eq fun cdv A outer s H E hc lk hcd r => b_Over_eq M (pat_N d) ((glo_ok c).bd I.fk I.fn sc_Over_eq.nd r) ⟨kds_of hc, r⟩
theorem bd_Over_eq {fd : FuncData} (Fd : FunD K d_Over_eq.name d_Over_eq.qual d_Over_eq.params d_Over_eq.body d_Over_eq.scope (d_Over_eq.dvs K) (d_Over_eq.kws K) (d_Over_eq.at_ K) fd) : Binds K fd [("self" : Str), ("other" : Str)] [] := FunD.bindsN Fd fun _ _ _ _ _ _ us hl => match us, hl with
  | [_, _], _ => rfl
theorem fs_Over_eq (c : HD.Says w h K) (M : Mg (mkT K P w) mg) (tb : ∀ p ∈ lamD, LamX.TabB base mg (He.cT K p).1 (He.cT K p).2) (I : At K P w mg base d) : FnS (mkT K P w) P w mg base (5 * (d + 1)) (d_Over_eq.at_ K) (evFn 2 2 (e_Over_eq (pgN d))) := by
  obtain ⟨fd, Fd⟩ := c.dff 43 (d := d_Over_eq)
  exact fn_raw (T := mkT K P w) (ok_Over_eq c M tb I Fd) (bd_Over_eq Fd)
theorem sc_Over_shows : FnScope N_Over_shows [("self" : Str), ("program" : Str), ("limit" : Str)] (defScope s_Over_shows) := ⟨rfl, rfl, rfl, by decide +kernel, rfl, by decide +kernel, by decide +kernel⟩
theorem ok_Over_shows (c : HD.Says w h K) (M : Mg (mkT K P w) mg) (tb : ∀ p ∈ lamD, LamX.TabB base mg (He.cT K p).1 (He.cT K p).2) (I : At K P w mg base d) {fd : FuncData} (Fd : FunD K d_Over_shows.name d_Over_shows.qual d_Over_shows.params d_Over_shows.body d_Over_shows.scope (d_Over_shows.dvs K) (d_Over_shows.kws K) (d_Over_shows.at_ K) fd) : FnOk P w K mg base (L2.CX P w) (5 * d + 5) (d_Over_shows.at_ K) fd [("self" : Str), ("program" : Str), ("limit" : Str)] (fun vs H Q E => vs.length = 3 ∧ spR (mkT K P w) (evFn 3 4 (e_Over_shows (pgN d))) vs H Q E) :=
  fn_okD (T := mkT K P w) (k := 5 * d + 4) Fd sc_Over_shows fun cdv A outer s H E hc lk hcd r => b_Over_shows M (pat_N d) ((glo_ok c).bd I.fk I.fn sc_Over_shows.nd r) ⟨kds_of hc, r⟩
theorem bd_Over_shows {fd : FuncData} (Fd : FunD K d_Over_shows.name d_Over_shows.qual d_Over_shows.params d_Over_shows.body d_Over_shows.scope (d_Over_shows.dvs K) (d_Over_shows.kws K) (d_Over_shows.at_ K) fd) : Binds K fd [("self" : Str), ("program" : Str), ("limit" : Str)] [] := FunD.bindsN Fd fun _ _ _ _ _ _ us hl => match us, hl with
  | [_, _, _], _ => rfl
theorem fs_Over_shows (c : HD.Says w h K) (M : Mg (mkT K P w) mg) (tb : ∀ p ∈ lamD, LamX.TabB base mg (He.cT K p).1 (He.cT K p).2) (I : At K P w mg base d) : FnS (mkT K P w) P w mg base (5 * (d + 1)) (d_Over_shows.at_ K) (evFn 3 4 (e_Over_shows (pgN d))) := by
  obtain ⟨fd, Fd⟩ := c.dff 44 (d := d_Over_shows)
  exact fn_raw (T := mkT K P w) (ok_Over_shows c M tb I Fd) (bd_Over_shows Fd)
theorem sc_check_limit : FnScope N_check_limit [("limit" : Str)] (defScope s_check_limit) := ⟨rfl, rfl, rfl, by decide +kernel, rfl, by decide +kernel, by decide +kernel⟩
theorem ok_check_limit (c : HD.Says w h K) (M : Mg (mkT K P w) mg) (tb : ∀ p ∈ lamD, LamX.TabB base mg (He.cT K p).1 (He.cT K p).2) (I : At K P w mg base d) {fd : FuncData} (Fd : FunD K d_check_limit.name d_check_limit.qual d_check_limit.params d_check_limit.body d_check_limit.scope (d_check_limit.dvs K) (d_check_limit.kws K) (d_check_limit.at_ K) fd) : FnOk P w K mg base (L2.CX P w) (5 * d + 5) (d_check_limit.at_ K) fd [("limit" : Str)] (fun vs H Q E => vs.length = 1 ∧ spR (mkT K P w) (evFn 1 1 (e_check_limit (pgN d))) vs H Q E) :=
  fn_okD (T := mkT K P w) (k := 5 * d + 4) Fd sc_check_limit fun cdv A outer s H E hc lk hcd r => b_check_limit M (pat_N d) ((glo_ok c).bd I.fk I.fn sc_check_limit.nd r) ⟨kds_of hc, r⟩
theorem bd_check_limit {fd : FuncData} (Fd : FunD K d_check_limit.name d_check_limit.qual d_check_limit.params d_check_limit.body d_check_limit.scope (d_check_limit.dvs K) (d_check_limit.kws K) (d_check_limit.at_ K) fd) : Binds K fd [("limit" : Str)] [] := FunD.bindsN Fd fun _ _ _ _ _ _ us hl => match us, hl with
  | [_], _ => rfl
theorem fs_check_limit (c : HD.Says w h K) (M : Mg (mkT K P w) mg) (tb : ∀ p ∈ lamD, LamX.TabB base mg (He.cT K p).1 (He.cT K p).2) (I : At K P w mg base d) : FnS (mkT K P w) P w mg base (5 * (d + 1)) (d_check_limit.at_ K) (evFn 1 1 (e_check_limit (pgN d))) := by
  obtain ⟨fd, Fd⟩ := c.dff 45 (d := d_check_limit)
  exact fn_raw (T := mkT K P w) (ok_check_limit c M tb I Fd) (bd_check_limit Fd)
theorem sc_explored : FnScope N_explored [("program" : Str)] (defScope s_explored) := ⟨rfl, rfl, rfl, by decide +kernel, rfl, by decide +kernel, by decide +kernel⟩
theorem ok_explored (c : HD.Says w h K) (M : Mg (mkT K P w) mg) (tb : ∀ p ∈ lamD, LamX.TabB base mg (He.cT K p).1 (He.cT K p).2) (I : At K P w mg base d) {fd : FuncData} (Fd : FunD K d_explored.name d_explored.qual d_explored.params d_explored.body d_explored.scope (d_explored.dvs K) (d_explored.kws K) (d_explored.at_ K) fd) : FnOk P w K mg base (L2.CX P w) (5 * d + 5) (d_explored.at_ K) fd [("program" : Str)] (fun vs H Q E => vs.length = 1 ∧ spR (mkT K P w) (evFn 1 8 (e_explored (pgN d))) vs H Q E) :=
  fn_okD (T := mkT K P w) (k := 5 * d + 4) Fd sc_explored fun cdv A outer s H E hc lk hcd r => b_explored M (pat_N d) ((glo_ok c).bd I.fk I.fn sc_explored.nd r) ⟨kds_of hc, r⟩
theorem bd_explored {fd : FuncData} (Fd : FunD K d_explored.name d_explored.qual d_explored.params d_explored.body d_explored.scope (d_explored.dvs K) (d_explored.kws K) (d_explored.at_ K) fd) : Binds K fd [("program" : Str)] [] := FunD.bindsN Fd fun _ _ _ _ _ _ us hl => match us, hl with
  | [_], _ => rfl
theorem fs_explored (c : HD.Says w h K) (M : Mg (mkT K P w) mg) (tb : ∀ p ∈ lamD, LamX.TabB base mg (He.cT K p).1 (He.cT K p).2) (I : At K P w mg base d) : FnS (mkT K P w) P w mg base (5 * (d + 1)) (d_explored.at_ K) (evFn 1 8 (e_explored (pgN d))) := by
  obtain ⟨fd, Fd⟩ := c.dff 46 (d := d_explored)
  exact fn_raw (T := mkT K P w) (ok_explored c M tb I Fd) (bd_explored Fd)
theorem sc_road : FnScope N_road [("before" : Str), ("stand" : Str)] (defScope s_road) := ⟨rfl, rfl, rfl, by decide +kernel, rfl, by decide +kernel, by decide +kernel⟩
theorem ok_road (c : HD.Says w h K) (M : Mg (mkT K P w) mg) (tb : ∀ p ∈ lamD, LamX.TabB base mg (He.cT K p).1 (He.cT K p).2) (I : At K P w mg base d) {fd : FuncData} (Fd : FunD K d_road.name d_road.qual d_road.params d_road.body d_road.scope (d_road.dvs K) (d_road.kws K) (d_road.at_ K) fd) : FnOk P w K mg base (L2.CX P w) (5 * d + 5) (d_road.at_ K) fd [("before" : Str), ("stand" : Str)] (fun vs H Q E => vs.length = 2 ∧ spR (mkT K P w) (evFn 2 3 (e_road (pgN d))) vs H Q E) :=
  fn_okD (T := mkT K P w) (k := 5 * d + 4) Fd sc_road fun cdv A outer s H E hc lk hcd r => b_road M (pat_N d) ((glo_ok c).bd I.fk I.fn sc_road.nd r) ⟨kds_of hc, r⟩
theorem bd_road {fd : FuncData} (Fd : FunD K d_road.name d_road.qual d_road.params d_road.body d_road.scope (d_road.dvs K) (d_road.kws K) (d_road.at_ K) fd) : Binds K fd [("before" : Str), ("stand" : Str)] [] := FunD.bindsN Fd fun _ _ _ _ _ _ us hl => match us, hl with
  | [_, _], _ => rfl
theorem fs_road (c : HD.Says w h K) (M : Mg (mkT K P w) mg) (tb : ∀ p ∈ lamD, LamX.TabB base mg (He.cT K p).1 (He.cT K p).2) (I : At K P w mg base d) : FnS (mkT K P w) P w mg base (5 * (d + 1)) (d_road.at_ K) (evFn 2 3 (e_road (pgN d))) := by
  obtain ⟨fd, Fd⟩ := c.dff 47 (d := d_road)
  exact fn_raw (T := mkT K P w) (ok_road c M tb I Fd) (bd_road Fd)
theorem sc_path_of : FnScope N_path_of [("stands" : Str)] (defScope s_path_of) := ⟨rfl, rfl, rfl, by decide +kernel, rfl, by decide +kernel, by decide +kernel⟩
theorem ok_path_of (c : HD.Says w h K) (M : Mg (mkT K P w) mg) (tb : ∀ p ∈ lamD, LamX.TabB base mg (He.cT K p).1 (He.cT K p).2) (I : At K P w mg base d) {fd : FuncData} (Fd : FunD K d_path_of.name d_path_of.qual d_path_of.params d_path_of.body d_path_of.scope (d_path_of.dvs K) (d_path_of.kws K) (d_path_of.at_ K) fd) : FnOk P w K mg base (L2.CX P w) (5 * d + 5) (d_path_of.at_ K) fd [("stands" : Str)] (fun vs H Q E => vs.length = 1 ∧ spR (mkT K P w) (evFn 1 2 (e_path_of (pgN d))) vs H Q E) :=
  fn_okD (T := mkT K P w) (k := 5 * d + 4) Fd sc_path_of fun cdv A outer s H E hc lk hcd r => b_path_of M (pat_N d) ((glo_ok c).bd I.fk I.fn sc_path_of.nd r) ⟨kds_of hc, r⟩
theorem bd_path_of {fd : FuncData} (Fd : FunD K d_path_of.name d_path_of.qual d_path_of.params d_path_of.body d_path_of.scope (d_path_of.dvs K) (d_path_of.kws K) (d_path_of.at_ K) fd) : Binds K fd [("stands" : Str)] [] := FunD.bindsN Fd fun _ _ _ _ _ _ us hl => match us, hl with
  | [_], _ => rfl
theorem fs_path_of (c : HD.Says w h K) (M : Mg (mkT K P w) mg) (tb : ∀ p ∈ lamD, LamX.TabB base mg (He.cT K p).1 (He.cT K p).2) (I : At K P w mg base d) : FnS (mkT K P w) P w mg base (5 * (d + 1)) (d_path_of.at_ K) (evFn 1 2 (e_path_of (pgN d))) := by
  obtain ⟨fd, Fd⟩ := c.dff 48 (d := d_path_of)
  exact fn_raw (T := mkT K P w) (ok_path_of c M tb I Fd) (bd_path_of Fd)
theorem sc_road_round : FnScope N_road_round [("program" : Str), ("rows" : Str), ("begin" : Str), ("goal" : Str)] (defScope s_road_round) := ⟨rfl, rfl, rfl, by decide +kernel, rfl, by decide +kernel, by decide +kernel⟩
theorem ok_road_round (c : HD.Says w h K) (M : Mg (mkT K P w) mg) (tb : ∀ p ∈ lamD, LamX.TabB base mg (He.cT K p).1 (He.cT K p).2) (I : At K P w mg base d) {fd : FuncData} (Fd : FunD K d_road_round.name d_road_round.qual d_road_round.params d_road_round.body d_road_round.scope (d_road_round.dvs K) (d_road_round.kws K) (d_road_round.at_ K) fd) : FnOk P w K mg base (L2.CX P w) (5 * d + 5) (d_road_round.at_ K) fd [("program" : Str), ("rows" : Str), ("begin" : Str), ("goal" : Str)] (fun vs H Q E => vs.length = 4 ∧ spR (mkT K P w) (evFn 4 9 (e_road_round (pgN d))) vs H Q E) :=
  fn_okD (T := mkT K P w) (k := 5 * d + 4) Fd sc_road_round fun cdv A outer s H E hc lk hcd r => b_road_round M (pat_N d) ((glo_ok c).bd I.fk I.fn sc_road_round.nd r) ⟨kds_of hc, r⟩
theorem bd_road_round {fd : FuncData} (Fd : FunD K d_road_round.name d_road_round.qual d_road_round.params d_road_round.body d_road_round.scope (d_road_round.dvs K) (d_road_round.kws K) (d_road_round.at_ K) fd) : Binds K fd [("program" : Str), ("rows" : Str), ("begin" : Str), ("goal" : Str)] [] := FunD.bindsN Fd fun _ _ _ _ _ _ us hl => match us, hl with
  | [_, _, _, _], _ => rfl
theorem fs_road_round (c : HD.Says w h K) (M : Mg (mkT K P w) mg) (tb : ∀ p ∈ lamD, LamX.TabB base mg (He.cT K p).1 (He.cT K p).2) (I : At K P w mg base d) : FnS (mkT K P w) P w mg base (5 * (d + 1)) (d_road_round.at_ K) (evFn 4 9 (e_road_round (pgN d))) := by
  obtain ⟨fd, Fd⟩ := c.dff 49 (d := d_road_round)
  exact fn_raw (T := mkT K P w) (ok_road_round c M tb I Fd) (bd_road_round Fd)
theorem sc_ring_of : FnScope N_ring_of [("program" : Str), ("rows" : Str)] (defScope s_ring_of) := ⟨rfl, rfl, rfl, by decide +kernel, rfl, by decide +kernel, by decide +kernel⟩
theorem ok_ring_of (c : HD.Says w h K) (M : Mg (mkT K P w) mg) (tb : ∀ p ∈ lamD, LamX.TabB base mg (He.cT K p).1 (He.cT K p).2) (I : At K P w mg base d) {fd : FuncData} (Fd : FunD K d_ring_of.name d_ring_of.qual d_ring_of.params d_ring_of.body d_ring_of.scope (d_ring_of.dvs K) (d_ring_of.kws K) (d_ring_of.at_ K) fd) : FnOk P w K mg base (L2.CX P w) (5 * d + 5) (d_ring_of.at_ K) fd [("program" : Str), ("rows" : Str)] (fun vs H Q E => vs.length = 2 ∧ spR (mkT K P w) (evFn 2 6 (e_ring_of (pgN d))) vs H Q E) :=
  fn_okD (T := mkT K P w) (k := 5 * d + 4) Fd sc_ring_of fun cdv A outer s H E hc lk hcd r => b_ring_of M (pat_N d) ((glo_ok c).bd I.fk I.fn sc_ring_of.nd r) ⟨kds_of hc, r⟩
theorem bd_ring_of {fd : FuncData} (Fd : FunD K d_ring_of.name d_ring_of.qual d_ring_of.params d_ring_of.body d_ring_of.scope (d_ring_of.dvs K) (d_ring_of.kws K) (d_ring_of.at_ K) fd) : Binds K fd [("program" : Str), ("rows" : Str)] [] := FunD.bindsN Fd fun _ _ _ _ _ _ us hl => match us, hl with
  | [_, _], _ => rfl
theorem fs_ring_of (c : HD.Says w h K) (M : Mg (mkT K P w) mg) (tb : ∀ p ∈ lamD, LamX.TabB base mg (He.cT K p).1 (He.cT K p).2) (I : At K P w mg base d) : FnS (mkT K P w) P w mg base (5 * (d + 1)) (d_ring_of.at_ K) (evFn 2 6 (e_ring_of (pgN d))) := by
  obtain ⟨fd, Fd⟩ := c.dff 50 (d := d_ring_of)
  exact fn_raw (T := mkT K P w) (ok_ring_of c M tb I Fd) (bd_ring_of Fd)
theorem sc_raised : FnScope N_raised [("program" : Str), ("rows" : Str)] (defScope s_raised) := ⟨rfl, rfl, rfl, by decide +kernel, rfl, by decide +kernel, by decide +kernel⟩
theorem ok_raised (c : HD.Says w h K) (M : Mg (mkT K P w) mg) (tb : ∀ p ∈ lamD, LamX.TabB base mg (He.cT K p).1 (He.cT K p).2) (I : At K P w mg base d) {fd : FuncData} (Fd : FunD K d_raised.name d_raised.qual d_raised.params d_raised.body d_raised.scope (d_raised.dvs K) (d_raised.kws K) (d_raised.at_ K) fd) : FnOk P w K mg base (L2.CX P w) (5 * d + 5) (d_raised.at_ K) fd [("program" : Str), ("rows" : Str)] (fun vs H Q E => vs.length = 2 ∧ spR (mkT K P w) (evFn 2 11 (e_raised (pgN d))) vs H Q E) :=
  fn_okD (T := mkT K P w) (k := 5 * d + 4) Fd sc_raised fun cdv A outer s H E hc lk hcd r => b_raised M (pat_N d) ((glo_ok c).bd I.fk I.fn sc_raised.nd r) ⟨kds_of hc, r⟩
theorem bd_raised {fd : FuncData} (Fd : FunD K d_raised.name d_raised.qual d_raised.params d_raised.body d_raised.scope (d_raised.dvs K) (d_raised.kws K) (d_raised.at_ K) fd) : Binds K fd [("program" : Str), ("rows" : Str)] [] := FunD.bindsN Fd fun _ _ _ _ _ _ us hl => match us, hl with
  | [_, _], _ => rfl
theorem fs_raised (c : HD.Says w h K) (M : Mg (mkT K P w) mg) (tb : ∀ p ∈ lamD, LamX.TabB base mg (He.cT K p).1 (He.cT K p).2) (I : At K P w mg base d) : FnS (mkT K P w) P w mg base (5 * (d + 1)) (d_raised.at_ K) (evFn 2 11 (e_raised (pgN d))) := by
  obtain ⟨fd, Fd⟩ := c.dff 51 (d := d_raised)
  exact fn_raw (T := mkT K P w) (ok_raised c M tb I Fd) (bd_raised Fd)
theorem sc_top_road : FnScope N_top_road [("before" : Str), ("sources" : Str), ("goal" : Str)] (defScope s_top_road) := ⟨rfl, rfl, rfl, by decide +kernel, rfl, by decide +kernel, by decide +kernel⟩
theorem ok_top_road (c : HD.Says w h K) (M : Mg (mkT K P w) mg) (tb : ∀ p ∈ lamD, LamX.TabB base mg (He.cT K p).1 (He.cT K p).2) (I : At K P w mg base d) {fd : FuncData} (Fd : FunD K d_top_road.name d_top_road.qual d_top_road.params d_top_road.body d_top_road.scope (d_top_road.dvs K) (d_top_road.kws K) (d_top_road.at_ K) fd) : FnOk P w K mg base (L2.CX P w) (5 * d + 5) (d_top_road.at_ K) fd [("before" : Str), ("sources" : Str), ("goal" : Str)] (fun vs H Q E => vs.length = 3 ∧ spR (mkT K P w) (evFn 3 6 (e_top_road (pgN d))) vs H Q E) :=
  fn_okD (T := mkT K P w) (k := 5 * d + 4) Fd sc_top_road fun cdv A outer s H E hc lk hcd r => b_top_road M (pat_N d) ((glo_ok c).bd I.fk I.fn sc_top_road.nd r) ⟨kds_of hc, r⟩
theorem bd_top_road {fd : FuncData} (Fd : FunD K d_top_road.name d_top_road.qual d_top_road.params d_top_road.body d_top_road.scope (d_top_road.dvs K) (d_top_road.kws K) (d_top_road.at_ K) fd) : Binds K fd [("before" : Str), ("sources" : Str), ("goal" : Str)] [] := FunD.bindsN Fd fun _ _ _ _ _ _ us hl => match us, hl with
  | [_, _, _], _ => rfl
theorem fs_top_road (c : HD.Says w h K) (M : Mg (mkT K P w) mg) (tb : ∀ p ∈ lamD, LamX.TabB base mg (He.cT K p).1 (He.cT K p).2) (I : At K P w mg base d) : FnS (mkT K P w) P w mg base (5 * (d + 1)) (d_top_road.at_ K) (evFn 3 6 (e_top_road (pgN d))) := by
  obtain ⟨fd, Fd⟩ := c.dff 52 (d := d_top_road)
  exact fn_raw (T := mkT K P w) (ok_top_road c M tb I Fd) (bd_top_road Fd)
theorem sc_bound_of : FnScope N_bound_of [("program" : Str)] (defScope s_bound_of) := ⟨rfl, rfl, rfl, by decide +kernel, rfl, by decide +kernel, by decide +kernel⟩
theorem ok_bound_of (c : HD.Says w h K) (M : Mg (mkT K P w) mg) (tb : ∀ p ∈ lamD, LamX.TabB base mg (He.cT K p).1 (He.cT K p).2) (I : At K P w mg base d) {fd : FuncData} (Fd : FunD K d_bound_of.name d_bound_of.qual d_bound_of.params d_bound_of.body d_bound_of.scope (d_bound_of.dvs K) (d_bound_of.kws K) (d_bound_of.at_ K) fd) : FnOk P w K mg base (L2.CX P w) (5 * d + 5) (d_bound_of.at_ K) fd [("program" : Str)] (fun vs H Q E => vs.length = 1 ∧ spR (mkT K P w) (evFn 1 8 (e_bound_of (pgN d))) vs H Q E) :=
  fn_okD (T := mkT K P w) (k := 5 * d + 4) Fd sc_bound_of fun cdv A outer s H E hc lk hcd r => b_bound_of M (pat_N d) ((glo_ok c).bd I.fk I.fn sc_bound_of.nd r) ⟨kds_of hc, r⟩
theorem bd_bound_of {fd : FuncData} (Fd : FunD K d_bound_of.name d_bound_of.qual d_bound_of.params d_bound_of.body d_bound_of.scope (d_bound_of.dvs K) (d_bound_of.kws K) (d_bound_of.at_ K) fd) : Binds K fd [("program" : Str)] [] := FunD.bindsN Fd fun _ _ _ _ _ _ us hl => match us, hl with
  | [_], _ => rfl
theorem fs_bound_of (c : HD.Says w h K) (M : Mg (mkT K P w) mg) (tb : ∀ p ∈ lamD, LamX.TabB base mg (He.cT K p).1 (He.cT K p).2) (I : At K P w mg base d) : FnS (mkT K P w) P w mg base (5 * (d + 1)) (d_bound_of.at_ K) (evFn 1 8 (e_bound_of (pgN d))) := by
  obtain ⟨fd, Fd⟩ := c.dff 53 (d := d_bound_of)
  exact fn_raw (T := mkT K P w) (ok_bound_of c M tb I Fd) (bd_bound_of Fd)
theorem sc_check_any : FnScope N_check_any [("limit" : Str)] (defScope s_check_any) := ⟨rfl, rfl, rfl, by decide +kernel, rfl, by decide +kernel, by decide +kernel⟩
theorem ok_check_any (c : HD.Says w h K) (M : Mg (mkT K P w) mg) (tb : ∀ p ∈ lamD, LamX.TabB base mg (He.cT K p).1 (He.cT K p).2) (I : At K P w mg base d) {fd : FuncData} (Fd : FunD K d_check_any.name d_check_any.qual d_check_any.params d_check_any.body d_check_any.scope (d_check_any.dvs K) (d_check_any.kws K) (d_check_any.at_ K) fd) : FnOk P w K mg base (L2.CX P w) (5 * d + 5) (d_check_any.at_ K) fd [("limit" : Str)] (fun vs H Q E => vs.length = 1 ∧ spR (mkT K P w) (evFn 1 1 (e_check_any (pgN d))) vs H Q E) :=
  fn_okD (T := mkT K P w) (k := 5 * d + 4) Fd sc_check_any fun cdv A outer s H E hc lk hcd r => b_check_any M (pat_N d) ((glo_ok c).bd I.fk I.fn sc_check_any.nd r) ⟨kds_of hc, r⟩
theorem bd_check_any {fd : FuncData} (Fd : FunD K d_check_any.name d_check_any.qual d_check_any.params d_check_any.body d_check_any.scope (d_check_any.dvs K) (d_check_any.kws K) (d_check_any.at_ K) fd) : Binds K fd [("limit" : Str)] [] := FunD.bindsN Fd fun _ _ _ _ _ _ us hl => match us, hl with
  | [_], _ => rfl
theorem fs_check_any (c : HD.Says w h K) (M : Mg (mkT K P w) mg) (tb : ∀ p ∈ lamD, LamX.TabB base mg (He.cT K p).1 (He.cT K p).2) (I : At K P w mg base d) : FnS (mkT K P w) P w mg base (5 * (d + 1)) (d_check_any.at_ K) (evFn 1 1 (e_check_any (pgN d))) := by
  obtain ⟨fd, Fd⟩ := c.dff 54 (d := d_check_any)
  exact fn_raw (T := mkT K P w) (ok_check_any c M tb I Fd) (bd_check_any Fd)
theorem sc_is_spot : FnScope N_is_spot [("program" : Str), ("value" : Str)] (defScope s_is_spot) := ⟨rfl, rfl, rfl, by decide +kernel, rfl, by decide +kernel, by decide +kernel⟩
theorem ok_is_spot (c : HD.Says w h K) (M : Mg (mkT K P w) mg) (tb : ∀ p ∈ lamD, LamX.TabB base mg (He.cT K p).1 (He.cT K p).2) (I : At K P w mg base d) {fd : FuncData} (Fd : FunD K d_is_spot.name d_is_spot.qual d_is_spot.params d_is_spot.body d_is_spot.scope (d_is_spot.dvs K) (d_is_spot.kws K) (d_is_spot.at_ K) fd) : FnOk P w K mg base (L2.CX P w) (5 * d + 5) (d_is_spot.at_ K) fd [("program" : Str), ("value" : Str)] (fun vs H Q E => vs.length = 2 ∧ spR (mkT K P w) (evFn 2 2 (e_is_spot (pgN d))) vs H Q E) :=
  fn_okD (T := mkT K P w) (k := 5 * d + 4) Fd sc_is_spot fun cdv A outer s H E hc lk hcd r => b_is_spot M (pat_N d) ((glo_ok c).bd I.fk I.fn sc_is_spot.nd r) ⟨kds_of hc, r⟩
theorem bd_is_spot {fd : FuncData} (Fd : FunD K d_is_spot.name d_is_spot.qual d_is_spot.params d_is_spot.body d_is_spot.scope (d_is_spot.dvs K) (d_is_spot.kws K) (d_is_spot.at_ K) fd) : Binds K fd [("program" : Str), ("value" : Str)] [] := FunD.bindsN Fd fun _ _ _ _ _ _ us hl => match us, hl with
  | [_, _], _ => rfl
theorem fs_is_spot (c : HD.Says w h K) (M : Mg (mkT K P w) mg) (tb : ∀ p ∈ lamD, LamX.TabB base mg (He.cT K p).1 (He.cT K p).2) (I : At K P w mg base d) : FnS (mkT K P w) P w mg base (5 * (d + 1)) (d_is_spot.at_ K) (evFn 2 2 (e_is_spot (pgN d))) := by
  obtain ⟨fd, Fd⟩ := c.dff 55 (d := d_is_spot)
  exact fn_raw (T := mkT K P w) (ok_is_spot c M tb I Fd) (bd_is_spot Fd)
theorem sc_check_offers : FnScope N_check_offers [("program" : Str), ("offers" : Str)] (defScope s_check_offers) := ⟨rfl, rfl, rfl, by decide +kernel, rfl, by decide +kernel, by decide +kernel⟩
theorem ok_check_offers (c : HD.Says w h K) (M : Mg (mkT K P w) mg) (tb : ∀ p ∈ lamD, LamX.TabB base mg (He.cT K p).1 (He.cT K p).2) (I : At K P w mg base d) {fd : FuncData} (Fd : FunD K d_check_offers.name d_check_offers.qual d_check_offers.params d_check_offers.body d_check_offers.scope (d_check_offers.dvs K) (d_check_offers.kws K) (d_check_offers.at_ K) fd) : FnOk P w K mg base (L2.CX P w) (5 * d + 5) (d_check_offers.at_ K) fd [("program" : Str), ("offers" : Str)] (fun vs H Q E => vs.length = 2 ∧ spR (mkT K P w) (evFn 2 4 (e_check_offers (pgN d))) vs H Q E) :=
  fn_okD (T := mkT K P w) (k := 5 * d + 4) Fd sc_check_offers fun cdv A outer s H E hc lk hcd r => b_check_offers M (pat_N d) ((glo_ok c).bd I.fk I.fn sc_check_offers.nd r) ⟨kds_of hc, r⟩
theorem bd_check_offers {fd : FuncData} (Fd : FunD K d_check_offers.name d_check_offers.qual d_check_offers.params d_check_offers.body d_check_offers.scope (d_check_offers.dvs K) (d_check_offers.kws K) (d_check_offers.at_ K) fd) : Binds K fd [("program" : Str), ("offers" : Str)] [] := FunD.bindsN Fd fun _ _ _ _ _ _ us hl => match us, hl with
  | [_, _], _ => rfl
theorem fs_check_offers (c : HD.Says w h K) (M : Mg (mkT K P w) mg) (tb : ∀ p ∈ lamD, LamX.TabB base mg (He.cT K p).1 (He.cT K p).2) (I : At K P w mg base d) : FnS (mkT K P w) P w mg base (5 * (d + 1)) (d_check_offers.at_ K) (evFn 2 4 (e_check_offers (pgN d))) := by
  obtain ⟨fd, Fd⟩ := c.dff 56 (d := d_check_offers)
  exact fn_raw (T := mkT K P w) (ok_check_offers c M tb I Fd) (bd_check_offers Fd)
theorem sc_check_all : FnScope N_check_all [("program" : Str), ("offers" : Str), ("limit" : Str)] (defScope s_check_all) := ⟨rfl, rfl, rfl, by decide +kernel, rfl, by decide +kernel, by decide +kernel⟩
theorem ok_check_all (c : HD.Says w h K) (M : Mg (mkT K P w) mg) (tb : ∀ p ∈ lamD, LamX.TabB base mg (He.cT K p).1 (He.cT K p).2) (I : At K P w mg base d) {fd : FuncData} (Fd : FunD K d_check_all.name d_check_all.qual d_check_all.params d_check_all.body d_check_all.scope (d_check_all.dvs K) (d_check_all.kws K) (d_check_all.at_ K) fd) : FnOk P w K mg base (L2.CX P w) (5 * d + 5) (d_check_all.at_ K) fd [("program" : Str), ("offers" : Str), ("limit" : Str)] (fun vs H Q E => vs.length = 3 ∧ spR (mkT K P w) (evFn 3 3 (e_check_all (pgN d))) vs H Q E) :=
  fn_okD (T := mkT K P w) (k := 5 * d + 4) Fd sc_check_all fun cdv A outer s H E hc lk hcd r => b_check_all M (pat_N d) ((glo_ok c).bd I.fk I.fn sc_check_all.nd r) ⟨kds_of hc, r⟩
theorem bd_check_all {fd : FuncData} (Fd : FunD K d_check_all.name d_check_all.qual d_check_all.params d_check_all.body d_check_all.scope (d_check_all.dvs K) (d_check_all.kws K) (d_check_all.at_ K) fd) : Binds K fd [("program" : Str), ("offers" : Str), ("limit" : Str)] [] := FunD.bindsN Fd fun _ _ _ _ _ _ us hl => match us, hl with
  | [_, _, _], _ => rfl
theorem fs_check_all (c : HD.Says w h K) (M : Mg (mkT K P w) mg) (tb : ∀ p ∈ lamD, LamX.TabB base mg (He.cT K p).1 (He.cT K p).2) (I : At K P w mg base d) : FnS (mkT K P w) P w mg base (5 * (d + 1)) (d_check_all.at_ K) (evFn 3 3 (e_check_all (pgN d))) := by
  obtain ⟨fd, Fd⟩ := c.dff 57 (d := d_check_all)
  exact fn_raw (T := mkT K P w) (ok_check_all c M tb I Fd) (bd_check_all Fd)
theorem sc_price_of : FnScope N_price_of [("offers" : Str), ("lot" : Str)] (defScope s_price_of) := ⟨rfl, rfl, rfl, by decide +kernel, rfl, by decide +kernel, by decide +kernel⟩
theorem ok_price_of (c : HD.Says w h K) (M : Mg (mkT K P w) mg) (tb : ∀ p ∈ lamD, LamX.TabB base mg (He.cT K p).1 (He.cT K p).2) (I : At K P w mg base d) {fd : FuncData} (Fd : FunD K d_price_of.name d_price_of.qual d_price_of.params d_price_of.body d_price_of.scope (d_price_of.dvs K) (d_price_of.kws K) (d_price_of.at_ K) fd) : FnOk P w K mg base (L2.CX P w) (5 * d + 5) (d_price_of.at_ K) fd [("offers" : Str), ("lot" : Str)] (fun vs H Q E => vs.length = 2 ∧ spR (mkT K P w) (evFn 2 3 (e_price_of (pgN d))) vs H Q E) :=
  fn_okD (T := mkT K P w) (k := 5 * d + 4) Fd sc_price_of fun cdv A outer s H E hc lk hcd r => b_price_of M (pat_N d) ((glo_ok c).bd I.fk I.fn sc_price_of.nd r) ⟨kds_of hc, r⟩
theorem bd_price_of {fd : FuncData} (Fd : FunD K d_price_of.name d_price_of.qual d_price_of.params d_price_of.body d_price_of.scope (d_price_of.dvs K) (d_price_of.kws K) (d_price_of.at_ K) fd) : Binds K fd [("offers" : Str), ("lot" : Str)] [] := FunD.bindsN Fd fun _ _ _ _ _ _ us hl => match us, hl with
  | [_, _], _ => rfl
theorem fs_price_of (c : HD.Says w h K) (M : Mg (mkT K P w) mg) (tb : ∀ p ∈ lamD, LamX.TabB base mg (He.cT K p).1 (He.cT K p).2) (I : At K P w mg base d) : FnS (mkT K P w) P w mg base (5 * (d + 1)) (d_price_of.at_ K) (evFn 2 3 (e_price_of (pgN d))) := by
  obtain ⟨fd, Fd⟩ := c.dff 58 (d := d_price_of)
  exact fn_raw (T := mkT K P w) (ok_price_of c M tb I Fd) (bd_price_of Fd)
theorem sc_lots_of : FnScope N_lots_of [("offers" : Str)] (defScope s_lots_of) := ⟨rfl, rfl, rfl, by decide +kernel, rfl, by decide +kernel, by decide +kernel⟩
theorem la_lots_of {f : Addr} {fd : FuncData} {cdv : Value} {A : Around} {outer : List Env} {s : Shared} {H : Hp} {E : XK} (tb : ∀ p ∈ lamD, LamX.TabB base mg (He.cT K p).1 (He.cT K p).2) (hc : PySem.W.codeIn K cdv d_lots_of.qual = true) (lk : ∃ oc od osl, K.lookup (d_lots_of.at_ K) = some ⟨oc, od, .func fd, osl⟩) (hcd : fd.code = cdv) : LamOk (mkT K P w) (Cz (mkT K P w) P w mg base N_lots_of s_lots_of d_lots_of.qual f cdv A outer s H E) := by
  obtain ⟨cc, rfl⟩ := He.codeIn_ref hc
  obtain ⟨oc, od, osl, lk⟩ := lk
  have e1 : (He.cT K (("lots_of", none) : He.Defn)).1 = cc := He.codeOf_eq lk hcd
  refine ⟨cc, (He.cT K (("lots_of", none) : He.Defn)).2, rfl, e1 ▸ tb (("lots_of", none) : He.Defn) (List.mem_of_getElem? (i := 0) rfl), List.mem_of_getElem? (i := 0) rfl, fun q hq _ => ?_⟩
  rw [List.mem_singleton.mp hq]; rfl
theorem ok_lots_of (c : HD.Says w h K) (M : Mg (mkT K P w) mg) (tb : ∀ p ∈ lamD, LamX.TabB base mg (He.cT K p).1 (He.cT K p).2) (I : At K P w mg base d) {fd : FuncData} (Fd : FunD K d_lots_of.name d_lots_of.qual d_lots_of.params d_lots_of.body d_lots_of.scope (d_lots_of.dvs K) (d_lots_of.kws K) (d_lots_of.at_ K) fd) : FnOk P w K mg base (L2.CX P w) (5 * d + 5) (d_lots_of.at_ K) fd [("offers" : Str)] (fun vs H Q E => vs.length = 1 ∧ spR (mkT K P w) (evFn 1 4 (e_lots_of (pgN d))) vs H Q E) :=
  fn_okD (T := mkT K P w) (k := 5 * d + 4) Fd sc_lots_of fun cdv A outer s H E hc lk hcd r => b_lots_of M (pat_N d) ((glo_ok c).bd I.fk I.fn sc_lots_of.nd r) ⟨kds_of hc, r⟩ (la_lots_of tb hc lk hcd)
theorem bd_lots_of {fd : FuncData} (Fd : FunD K d_lots_of.name d_lots_of.qual d_lots_of.params d_lots_of.body d_lots_of.scope (d_lots_of.dvs K) (d_lots_of.kws K) (d_lots_of.at_ K) fd) : Binds K fd [("offers" : Str)] [] := FunD.bindsN Fd fun _ _ _ _ _ _ us hl => match us, hl with
  | [_], _ => rfl
theorem fs_lots_of (c : HD.Says w h K) (M : Mg (mkT K P w) mg) (tb : ∀ p ∈ lamD, LamX.TabB base mg (He.cT K p).1 (He.cT K p).2) (I : At K P w mg base d) : FnS (mkT K P w) P w mg base (5 * (d + 1)) (d_lots_of.at_ K) (evFn 1 4 (e_lots_of (pgN d))) := by
  obtain ⟨fd, Fd⟩ := c.dff 59 (d := d_lots_of)
  exact fn_raw (T := mkT K P w) (ok_lots_of c M tb I Fd) (bd_lots_of Fd)
theorem sc_with_lot : FnScope N_with_lot [("program" : Str), ("lot" : Str)] (defScope s_with_lot) := ⟨rfl, rfl, rfl, by decide +kernel, rfl, by decide +kernel, by decide +kernel⟩
theorem ok_with_lot (c : HD.Says w h K) (M : Mg (mkT K P w) mg) (tb : ∀ p ∈ lamD, LamX.TabB base mg (He.cT K p).1 (He.cT K p).2) (I : At K P w mg base d) {fd : FuncData} (Fd : FunD K d_with_lot.name d_with_lot.qual d_with_lot.params d_with_lot.body d_with_lot.scope (d_with_lot.dvs K) (d_with_lot.kws K) (d_with_lot.at_ K) fd) : FnOk P w K mg base (L2.CX P w) (5 * d + 5) (d_with_lot.at_ K) fd [("program" : Str), ("lot" : Str)] (fun vs H Q E => vs.length = 2 ∧ spR (mkT K P w) (evFn 2 5 (e_with_lot (pgN d))) vs H Q E) :=
  fn_okD (T := mkT K P w) (k := 5 * d + 4) Fd sc_with_lot fun cdv A outer s H E hc lk hcd r => b_with_lot M (pat_N d) ((glo_ok c).bd I.fk I.fn sc_with_lot.nd r) ⟨kds_of hc, r⟩
theorem bd_with_lot {fd : FuncData} (Fd : FunD K d_with_lot.name d_with_lot.qual d_with_lot.params d_with_lot.body d_with_lot.scope (d_with_lot.dvs K) (d_with_lot.kws K) (d_with_lot.at_ K) fd) : Binds K fd [("program" : Str), ("lot" : Str)] [] := FunD.bindsN Fd fun _ _ _ _ _ _ us hl => match us, hl with
  | [_, _], _ => rfl
theorem fs_with_lot (c : HD.Says w h K) (M : Mg (mkT K P w) mg) (tb : ∀ p ∈ lamD, LamX.TabB base mg (He.cT K p).1 (He.cT K p).2) (I : At K P w mg base d) : FnS (mkT K P w) P w mg base (5 * (d + 1)) (d_with_lot.at_ K) (evFn 2 5 (e_with_lot (pgN d))) := by
  obtain ⟨fd, Fd⟩ := c.dff 60 (d := d_with_lot)
  exact fn_raw (T := mkT K P w) (ok_with_lot c M tb I Fd) (bd_with_lot Fd)
theorem sc_answer_to : FnScope N_answer_to [("program" : Str), ("lot" : Str), ("limit" : Str)] (defScope s_answer_to) := ⟨rfl, rfl, rfl, by decide +kernel, rfl, by decide +kernel, by decide +kernel⟩
theorem ok_answer_to (c : HD.Says w h K) (M : Mg (mkT K P w) mg) (tb : ∀ p ∈ lamD, LamX.TabB base mg (He.cT K p).1 (He.cT K p).2) (I : At K P w mg base d) {fd : FuncData} (Fd : FunD K d_answer_to.name d_answer_to.qual d_answer_to.params d_answer_to.body d_answer_to.scope (d_answer_to.dvs K) (d_answer_to.kws K) (d_answer_to.at_ K) fd) : FnOk P w K mg base (L2.CX P w) (5 * d + 5) (d_answer_to.at_ K) fd [("program" : Str), ("lot" : Str), ("limit" : Str)] (fun vs H Q E => vs.length = 3 ∧ spR (mkT K P w) (evFn 3 4 (e_answer_to (pgN d))) vs H Q E) :=
  fn_okD (T := mkT K P w) (k := 5 * d + 4) Fd sc_answer_to fun cdv A outer s H E hc lk hcd r => b_answer_to M (pat_N d) ((glo_ok c).bd I.fk I.fn sc_answer_to.nd r) ⟨kds_of hc, r⟩
theorem bd_answer_to {fd : FuncData} (Fd : FunD K d_answer_to.name d_answer_to.qual d_answer_to.params d_answer_to.body d_answer_to.scope (d_answer_to.dvs K) (d_answer_to.kws K) (d_answer_to.at_ K) fd) : Binds K fd [("program" : Str), ("lot" : Str), ("limit" : Str)] [] := FunD.bindsN Fd fun _ _ _ _ _ _ us hl => match us, hl with
  | [_, _, _], _ => rfl
theorem fs_answer_to (c : HD.Says w h K) (M : Mg (mkT K P w) mg) (tb : ∀ p ∈ lamD, LamX.TabB base mg (He.cT K p).1 (He.cT K p).2) (I : At K P w mg base d) : FnS (mkT K P w) P w mg base (5 * (d + 1)) (d_answer_to.at_ K) (evFn 3 4 (e_answer_to (pgN d))) := by
  obtain ⟨fd, Fd⟩ := c.dff 61 (d := d_answer_to)
  exact fn_raw (T := mkT K P w) (ok_answer_to c M tb I Fd) (bd_answer_to Fd)
theorem sc_is_against_lot : FnScope N_is_against_lot [("program" : Str), ("lot" : Str), ("limit" : Str), ("found" : Str)] (defScope s_is_against_lot) := ⟨rfl, rfl, rfl, by decide +kernel, rfl, by decide +kernel, by decide +kernel⟩
theorem ok_is_against_lot (c : HD.Says w h K) (M : Mg (mkT K P w) mg) (tb : ∀ p ∈ lamD, LamX.TabB base mg (He.cT K p).1 (He.cT K p).2) (I : At K P w mg base d) {fd : FuncData} (Fd : FunD K d_is_against_lot.name d_is_against_lot.qual d_is_against_lot.params d_is_against_lot.body d_is_against_lot.scope (d_is_against_lot.dvs K) (d_is_against_lot.kws K) (d_is_against_lot.at_ K) fd) : FnOk P w K mg base (L2.CX P w) (5 * d + 5) (d_is_against_lot.at_ K) fd [("program" : Str), ("lot" : Str), ("limit" : Str), ("found" : Str)] (fun vs H Q E => vs.length = 4 ∧ spR (mkT K P w) (evFn 4 5 (e_is_against_lot (pgN d))) vs H Q E) :=
  fn_okD (T := mkT K P w) (k := 5 * d + 4) Fd sc_is_against_lot fun cdv A outer s H E hc lk hcd r => b_is_against_lot M (pat_N d) ((glo_ok c).bd I.fk I.fn sc_is_against_lot.nd r) ⟨kds_of hc, r⟩
theorem bd_is_against_lot {fd : FuncData} (Fd : FunD K d_is_against_lot.name d_is_against_lot.qual d_is_against_lot.params d_is_against_lot.body d_is_against_lot.scope (d_is_against_lot.dvs K) (d_is_against_lot.kws K) (d_is_against_lot.at_ K) fd) : Binds K fd [("program" : Str), ("lot" : Str), ("limit" : Str), ("found" : Str)] [] := FunD.bindsN Fd fun _ _ _ _ _ _ us hl => match us, hl with
  | [_, _, _, _], _ => rfl
theorem fs_is_against_lot (c : HD.Says w h K) (M : Mg (mkT K P w) mg) (tb : ∀ p ∈ lamD, LamX.TabB base mg (He.cT K p).1 (He.cT K p).2) (I : At K P w mg base d) : FnS (mkT K P w) P w mg base (5 * (d + 1)) (d_is_against_lot.at_ K) (evFn 4 5 (e_is_against_lot (pgN d))) := by
  obtain ⟨fd, Fd⟩ := c.dff 62 (d := d_is_against_lot)
  exact fn_raw (T := mkT K P w) (ok_is_against_lot c M tb I Fd) (bd_is_against_lot Fd)
theorem sc_are_against_lots : FnScope N_are_against_lots [("program" : Str), ("due" : Str), ("limit" : Str), ("others" : Str)] (defScope s_are_against_lots) := ⟨rfl, rfl, rfl, by decide +kernel, rfl, by decide +kernel, by decide +kernel⟩
theorem ok_are_against_lots (c : HD.Says w h K) (M : Mg (mkT K P w) mg) (tb : ∀ p ∈ lamD, LamX.TabB base mg (He.cT K p).1 (He.cT K p).2) (I : At K P w mg base d) {fd : FuncData} (Fd : FunD K d_are_against_lots.name d_are_against_lots.qual d_are_against_lots.params d_are_against_lots.body d_are_against_lots.scope (d_are_against_lots.dvs K) (d_are_against_lots.kws K) (d_are_against_lots.at_ K) fd) : FnOk P w K mg base (L2.CX P w) (5 * d + 5) (d_are_against_lots.at_ K) fd [("program" : Str), ("due" : Str), ("limit" : Str), ("others" : Str)] (fun vs H Q E => vs.length = 4 ∧ spR (mkT K P w) (evFn 4 5 (e_are_against_lots (pgN d))) vs H Q E) :=
  fn_okD (T := mkT K P w) (k := 5 * d + 4) Fd sc_are_against_lots fun cdv A outer s H E hc lk hcd r => b_are_against_lots M (pat_N d) ((glo_ok c).bd I.fk I.fn sc_are_against_lots.nd r) ⟨kds_of hc, r⟩
theorem bd_are_against_lots {fd : FuncData} (Fd : FunD K d_are_against_lots.name d_are_against_lots.qual d_are_against_lots.params d_are_against_lots.body d_are_against_lots.scope (d_are_against_lots.dvs K) (d_are_against_lots.kws K) (d_are_against_lots.at_ K) fd) : Binds K fd [("program" : Str), ("due" : Str), ("limit" : Str), ("others" : Str)] [] := FunD.bindsN Fd fun _ _ _ _ _ _ us hl => match us, hl with
  | [_, _, _, _], _ => rfl
theorem fs_are_against_lots (c : HD.Says w h K) (M : Mg (mkT K P w) mg) (tb : ∀ p ∈ lamD, LamX.TabB base mg (He.cT K p).1 (He.cT K p).2) (I : At K P w mg base d) : FnS (mkT K P w) P w mg base (5 * (d + 1)) (d_are_against_lots.at_ K) (evFn 4 5 (e_are_against_lots (pgN d))) := by
  obtain ⟨fd, Fd⟩ := c.dff 63 (d := d_are_against_lots)
  exact fn_raw (T := mkT K P w) (ok_are_against_lots c M tb I Fd) (bd_are_against_lots Fd)
theorem sc_Tightened_init : FnScope N_Tightened_init [("self" : Str), ("lot" : Str), ("found" : Str), ("others" : Str)] (defScope s_Tightened_init) := ⟨rfl, rfl, rfl, by decide +kernel, rfl, by decide +kernel, by decide +kernel⟩
theorem ok_Tightened_init (c : HD.Says w h K) (M : Mg (mkT K P w) mg) (tb : ∀ p ∈ lamD, LamX.TabB base mg (He.cT K p).1 (He.cT K p).2) (I : At K P w mg base d) {fd : FuncData} (Fd : FunD K d_Tightened_init.name d_Tightened_init.qual d_Tightened_init.params d_Tightened_init.body d_Tightened_init.scope (d_Tightened_init.dvs K) (d_Tightened_init.kws K) (d_Tightened_init.at_ K) fd) : FnOk P w K mg base (L2.CX P w) (5 * d + 5) (d_Tightened_init.at_ K) fd [("self" : Str), ("lot" : Str), ("found" : Str), ("others" : Str)] (fun vs H Q E => vs.length = 4 ∧ spR (mkT K P w) (evFn 4 4 (e_Tightened_init (pgN d))) vs H Q E) :=
  fn_okD (T := mkT K P w) (k := 5 * d + 4) Fd sc_Tightened_init fun cdv A outer s H E hc lk hcd r => b_Tightened_init M (pat_N d) ((glo_ok c).bd I.fk I.fn sc_Tightened_init.nd r) ⟨kds_of hc, r⟩
theorem bd_Tightened_init {fd : FuncData} (Fd : FunD K d_Tightened_init.name d_Tightened_init.qual d_Tightened_init.params d_Tightened_init.body d_Tightened_init.scope (d_Tightened_init.dvs K) (d_Tightened_init.kws K) (d_Tightened_init.at_ K) fd) : Binds K fd [("self" : Str), ("lot" : Str), ("found" : Str), ("others" : Str)] [] := FunD.bindsN Fd fun _ _ _ _ _ _ us hl => match us, hl with
  | [_, _, _, _], _ => rfl
theorem fs_Tightened_init (c : HD.Says w h K) (M : Mg (mkT K P w) mg) (tb : ∀ p ∈ lamD, LamX.TabB base mg (He.cT K p).1 (He.cT K p).2) (I : At K P w mg base d) : FnS (mkT K P w) P w mg base (5 * (d + 1)) (d_Tightened_init.at_ K) (evFn 4 4 (e_Tightened_init (pgN d))) := by
  obtain ⟨fd, Fd⟩ := c.dff 64 (d := d_Tightened_init)
  exact fn_raw (T := mkT K P w) (ok_Tightened_init c M tb I Fd) (bd_Tightened_init Fd)
theorem sc_Tightened_eq : FnScope N_Tightened_eq [("self" : Str), ("other" : Str)] (defScope s_Tightened_eq) := ⟨rfl, rfl, rfl, by decide +kernel, rfl, by decide +kernel, by decide +kernel⟩
theorem ok_Tightened_eq (c : HD.Says w h K) (M : Mg (mkT K P w) mg) (tb : ∀ p ∈ lamD, LamX.TabB base mg (He.cT K p).1 (He.cT K p).2) (I : At K P w mg base d) {fd : FuncData} (Fd : FunD K d_Tightened_eq.name d_Tightened_eq.qual d_Tightened_eq.params d_Tightened_eq.body d_Tightened_eq.scope (d_Tightened_eq.dvs K) (d_Tightened_eq.kws K) (d_Tightened_eq.at_ K) fd) : FnOk P w K mg base (L2.CX P w) (5 * d + 5) (d_Tightened_eq.at_ K) fd [("self" : Str), ("other" : Str)] (fun vs H Q E => vs.length = 2 ∧ spR (mkT K P w) (evFn 2 2 (e_Tightened_eq (pgN d))) vs H Q E) :=
  fn_okD (T := mkT K P w) (k := 5 * d + 4) Fd sc_Tightened_eq fun cdv A outer s H E hc lk hcd r => b_Tightened_eq M (pat_N d) ((glo_ok c).bd I.fk I.fn sc_Tightened_eq.nd r) ⟨kds_of hc, r⟩
theorem bd_Tightened_eq {fd : FuncData} (Fd : FunD K d_Tightened_eq.name d_Tightened_eq.qual d_Tightened_eq.params d_Tightened_eq.body d_Tightened_eq.scope (d_Tightened_eq.dvs K) (d_Tightened_eq.kws K) (d_Tightened_eq.at_ K) fd) : Binds K fd [("self" : Str), ("other" : Str)] [] := FunD.bindsN Fd fun _ _ _ _ _ _ us hl => match us, hl with
  | [_, _], _ => rfl
theorem fs_Tightened_eq (c : HD.Says w h K) (M : Mg (mkT K P w) mg) (tb : ∀ p ∈ lamD, LamX.TabB base mg (He.cT K p).1 (He.cT K p).2) (I : At K P w mg base d) : FnS (mkT K P w) P w mg base (5 * (d + 1)) (d_Tightened_eq.at_ K) (evFn 2 2 (e_Tightened_eq (pgN d))) := by
  obtain ⟨fd, Fd⟩ := c.dff 65 (d := d_Tightened_eq)
  exact fn_raw (T := mkT K P w) (ok_Tightened_eq c M tb I Fd) (bd_Tightened_eq Fd)
theorem sc_Tightened_shows : FnScope N_Tightened_shows [("self" : Str), ("program" : Str), ("offers" : Str), ("limit" : Str)] (defScope s_Tightened_shows) := ⟨rfl, rfl, rfl, by decide +kernel, rfl, by decide +kernel, by decide +kernel⟩
theorem ok_Tightened_shows (c : HD.Says w h K) (M : Mg (mkT K P w) mg) (tb : ∀ p ∈ lamD, LamX.TabB base mg (He.cT K p).1 (He.cT K p).2) (I : At K P w mg base d) {fd : FuncData} (Fd : FunD K d_Tightened_shows.name d_Tightened_shows.qual d_Tightened_shows.params d_Tightened_shows.body d_Tightened_shows.scope (d_Tightened_shows.dvs K) (d_Tightened_shows.kws K) (d_Tightened_shows.at_ K) fd) : FnOk P w K mg base (L2.CX P w) (5 * d + 5) (d_Tightened_shows.at_ K) fd [("self" : Str), ("program" : Str), ("offers" : Str), ("limit" : Str)] (fun vs H Q E => vs.length = 4 ∧ spR (mkT K P w) (evFn 4 8 (e_Tightened_shows (pgN d))) vs H Q E) :=
  fn_okD (T := mkT K P w) (k := 5 * d + 4) Fd sc_Tightened_shows fun cdv A outer s H E hc lk hcd r => b_Tightened_shows M (pat_N d) ((glo_ok c).bd I.fk I.fn sc_Tightened_shows.nd r) ⟨kds_of hc, r⟩
theorem sc_NotTightened_init : FnScope N_NotTightened_init [("self" : Str), ("others" : Str)] (defScope s_NotTightened_init) := ⟨rfl, rfl, rfl, by decide +kernel, rfl, by decide +kernel, by decide +kernel⟩
theorem ok_NotTightened_init (c : HD.Says w h K) (M : Mg (mkT K P w) mg) (tb : ∀ p ∈ lamD, LamX.TabB base mg (He.cT K p).1 (He.cT K p).2) (I : At K P w mg base d) {fd : FuncData} (Fd : FunD K d_NotTightened_init.name d_NotTightened_init.qual d_NotTightened_init.params d_NotTightened_init.body d_NotTightened_init.scope (d_NotTightened_init.dvs K) (d_NotTightened_init.kws K) (d_NotTightened_init.at_ K) fd) : FnOk P w K mg base (L2.CX P w) (5 * d + 5) (d_NotTightened_init.at_ K) fd [("self" : Str), ("others" : Str)] (fun vs H Q E => vs.length = 2 ∧ spR (mkT K P w) (evFn 2 2 (e_NotTightened_init (pgN d))) vs H Q E) :=
  fn_okD (T := mkT K P w) (k := 5 * d + 4) Fd sc_NotTightened_init fun cdv A outer s H E hc lk hcd r => b_NotTightened_init M (pat_N d) ((glo_ok c).bd I.fk I.fn sc_NotTightened_init.nd r) ⟨kds_of hc, r⟩
theorem bd_NotTightened_init {fd : FuncData} (Fd : FunD K d_NotTightened_init.name d_NotTightened_init.qual d_NotTightened_init.params d_NotTightened_init.body d_NotTightened_init.scope (d_NotTightened_init.dvs K) (d_NotTightened_init.kws K) (d_NotTightened_init.at_ K) fd) : Binds K fd [("self" : Str), ("others" : Str)] [] := FunD.bindsN Fd fun _ _ _ _ _ _ us hl => match us, hl with
  | [_, _], _ => rfl
theorem fs_NotTightened_init (c : HD.Says w h K) (M : Mg (mkT K P w) mg) (tb : ∀ p ∈ lamD, LamX.TabB base mg (He.cT K p).1 (He.cT K p).2) (I : At K P w mg base d) : FnS (mkT K P w) P w mg base (5 * (d + 1)) (d_NotTightened_init.at_ K) (evFn 2 2 (e_NotTightened_init (pgN d))) := by
  obtain ⟨fd, Fd⟩ := c.dff 67 (d := d_NotTightened_init)
  exact fn_raw (T := mkT K P w) (ok_NotTightened_init c M tb I Fd) (bd_NotTightened_init Fd)
theorem sc_NotTightened_eq : FnScope N_NotTightened_eq [("self" : Str), ("other" : Str)] (defScope s_NotTightened_eq) := ⟨rfl, rfl, rfl, by decide +kernel, rfl, by decide +kernel, by decide +kernel⟩
theorem ok_NotTightened_eq (c : HD.Says w h K) (M : Mg (mkT K P w) mg) (tb : ∀ p ∈ lamD, LamX.TabB base mg (He.cT K p).1 (He.cT K p).2) (I : At K P w mg base d) {fd : FuncData} (Fd : FunD K d_NotTightened_eq.name d_NotTightened_eq.qual d_NotTightened_eq.params d_NotTightened_eq.body d_NotTightened_eq.scope (d_NotTightened_eq.dvs K) (d_NotTightened_eq.kws K) (d_NotTightened_eq.at_ K) fd) : FnOk P w K mg base (L2.CX P w) (5 * d + 5) (d_NotTightened_eq.at_ K) fd [("self" : Str), ("other" : Str)] (fun vs H Q E => vs.length = 2 ∧ spR (mkT K P w) (evFn 2 2 (e_NotTightened_eq (pgN d))) vs H Q E) :=
  fn_okD (T := mkT K P w) (k := 5 * d + 4) Fd sc_NotTightened_eq fun cdv A outer s H E hc lk hcd r => b_NotTightened_eq M (pat_N d) ((glo_ok c).bd I.fk I.fn sc_NotTightened_eq.nd r) ⟨kds_of hc, r⟩
theorem bd_NotTightened_eq {fd : FuncData} (Fd : FunD K d_NotTightened_eq.name d_NotTightened_eq.qual d_NotTightened_eq.params d_NotTightened_eq.body d_NotTightened_eq.scope (d_NotTightened_eq.dvs K) (d_NotTightened_eq.kws K) (d_NotTightened_eq.at_ K) fd) : Binds K fd [("self" : Str), ("other" : Str)] [] := FunD.bindsN Fd fun _ _ _ _ _ _ us hl => match us, hl with
  | [_, _], _ => rfl
theorem fs_NotTightened_eq (c : HD.Says w h K) (M : Mg (mkT K P w) mg) (tb : ∀ p ∈ lamD, LamX.TabB base mg (He.cT K p).1 (He.cT K p).2) (I : At K P w mg base d) : FnS (mkT K P w) P w mg base (5 * (d + 1)) (d_NotTightened_eq.at_ K) (evFn 2 2 (e_NotTightened_eq (pgN d))) := by
  obtain ⟨fd, Fd⟩ := c.dff 68 (d := d_NotTightened_eq)
  exact fn_raw (T := mkT K P w) (ok_NotTightened_eq c M tb I Fd) (bd_NotTightened_eq Fd)
theorem sc_NotTightened_shows : FnScope N_NotTightened_shows [("self" : Str), ("program" : Str), ("offers" : Str), ("limit" : Str)] (defScope s_NotTightened_shows) := ⟨rfl, rfl, rfl, by decide +kernel, rfl, by decide +kernel, by decide +kernel⟩
theorem ok_NotTightened_shows (c : HD.Says w h K) (M : Mg (mkT K P w) mg) (tb : ∀ p ∈ lamD, LamX.TabB base mg (He.cT K p).1 (He.cT K p).2) (I : At K P w mg base d) {fd : FuncData} (Fd : FunD K d_NotTightened_shows.name d_NotTightened_shows.qual d_NotTightened_shows.params d_NotTightened_shows.body d_NotTightened_shows.scope (d_NotTightened_shows.dvs K) (d_NotTightened_shows.kws K) (d_NotTightened_shows.at_ K) fd) : FnOk P w K mg base (L2.CX P w) (5 * d + 5) (d_NotTightened_shows.at_ K) fd [("self" : Str), ("program" : Str), ("offers" : Str), ("limit" : Str)] (fun vs H Q E => vs.length = 4 ∧ spR (mkT K P w) (evFn 4 4 (e_NotTightened_shows (pgN d))) vs H Q E) :=
  fn_okD (T := mkT K P w) (k := 5 * d + 4) Fd sc_NotTightened_shows fun cdv A outer s H E hc lk hcd r => b_NotTightened_shows M (pat_N d) ((glo_ok c).bd I.fk I.fn sc_NotTightened_shows.nd r) ⟨kds_of hc, r⟩
theorem sc_lots : FnScope N_lots [("program" : Str), ("offers" : Str)] (defScope s_lots) := ⟨rfl, rfl, rfl, by decide +kernel, rfl, by decide +kernel, by decide +kernel⟩
theorem ok_lots (c : HD.Says w h K) (M : Mg (mkT K P w) mg) (tb : ∀ p ∈ lamD, LamX.TabB base mg (He.cT K p).1 (He.cT K p).2) (I : At K P w mg base d) {fd : FuncData} (Fd : FunD K d_lots.name d_lots.qual d_lots.params d_lots.body d_lots.scope (d_lots.dvs K) (d_lots.kws K) (d_lots.at_ K) fd) : FnOk P w K mg base (L2.CX P w) (5 * d + 5) (d_lots.at_ K) fd [("program" : Str), ("offers" : Str)] (fun vs H Q E => vs.length = 2 ∧ spR (mkT K P w) (evFn 2 2 (e_lots (pgN d))) vs H Q E) :=
  fn_okD (T := mkT K P w) (k := 5 * d + 4) Fd sc_lots fun cdv A outer s H E hc lk hcd r => b_lots M (pat_N d) ((glo_ok c).bd I.fk I.fn sc_lots.nd r) ⟨kds_of hc, r⟩
theorem bd_lots {fd : FuncData} (Fd : FunD K d_lots.name d_lots.qual d_lots.params d_lots.body d_lots.scope (d_lots.dvs K) (d_lots.kws K) (d_lots.at_ K) fd) : Binds K fd [("program" : Str), ("offers" : Str)] [] := FunD.bindsN Fd fun _ _ _ _ _ _ us hl => match us, hl with
  | [_, _], _ => rfl
theorem fs_lots (c : HD.Says w h K) (M : Mg (mkT K P w) mg) (tb : ∀ p ∈ lamD, LamX.TabB base mg (He.cT K p).1 (He.cT K p).2) (I : At K P w mg base d) : FnS (mkT K P w) P w mg base (5 * (d + 1)) (d_lots.at_ K) (evFn 2 2 (e_lots (pgN d))) := by
  obtain ⟨fd, Fd⟩ := c.dff 70 (d := d_lots)
  exact fn_raw (T := mkT K P w) (ok_lots c M tb I Fd) (bd_lots Fd)
theorem sc_tightened : FnScope N_tightened [("program" : Str), ("offers" : Str), ("lot" : Str)] (defScope s_tightened) := ⟨rfl, rfl, rfl, by decide +kernel, rfl, by decide +kernel, by decide +kernel⟩
theorem ok_tightened (c : HD.Says w h K) (M : Mg (mkT K P w) mg) (tb : ∀ p ∈ lamD, LamX.TabB base mg (He.cT K p).1 (He.cT K p).2) (I : At K P w mg base d) {fd : FuncData} (Fd : FunD K d_tightened.name d_tightened.qual d_tightened.params d_tightened.body d_tightened.scope (d_tightened.dvs K) (d_tightened.kws K) (d_tightened.at_ K) fd) : FnOk P w K mg base (L2.CX P w) (5 * d + 5) (d_tightened.at_ K) fd [("program" : Str), ("offers" : Str), ("lot" : Str)] (fun vs H Q E => vs.length = 3 ∧ spR (mkT K P w) (evFn 3 4 (e_tightened (pgN d))) vs H Q E) :=
  fn_okD (T := mkT K P w) (k := 5 * d + 4) Fd sc_tightened fun cdv A outer s H E hc lk hcd r => b_tightened M (pat_N d) ((glo_ok c).bd I.fk I.fn sc_tightened.nd r) ⟨kds_of hc, r⟩
theorem bd_tightened {fd : FuncData} (Fd : FunD K d_tightened.name d_tightened.qual d_tightened.params d_tightened.body d_tightened.scope (d_tightened.dvs K) (d_tightened.kws K) (d_tightened.at_ K) fd) : Binds K fd [("program" : Str), ("offers" : Str), ("lot" : Str)] [] := FunD.bindsN Fd fun _ _ _ _ _ _ us hl => match us, hl with
  | [_, _, _], _ => rfl
theorem fs_tightened (c : HD.Says w h K) (M : Mg (mkT K P w) mg) (tb : ∀ p ∈ lamD, LamX.TabB base mg (He.cT K p).1 (He.cT K p).2) (I : At K P w mg base d) : FnS (mkT K P w) P w mg base (5 * (d + 1)) (d_tightened.at_ K) (evFn 3 4 (e_tightened (pgN d))) := by
  obtain ⟨fd, Fd⟩ := c.dff 71 (d := d_tightened)
  exact fn_raw (T := mkT K P w) (ok_tightened c M tb I Fd) (bd_tightened Fd)
theorem sc_tighten : FnScope N_tighten [("program" : Str), ("offers" : Str), ("limit" : Str)] (defScope s_tighten) := ⟨rfl, rfl, rfl, by decide +kernel, rfl, by decide +kernel, by decide +kernel⟩
theorem ok_tighten (c : HD.Says w h K) (M : Mg (mkT K P w) mg) (tb : ∀ p ∈ lamD, LamX.TabB base mg (He.cT K p).1 (He.cT K p).2) (I : At K P w mg base d) {fd : FuncData} (Fd : FunD K d_tighten.name d_tighten.qual d_tighten.params d_tighten.body d_tighten.scope (d_tighten.dvs K) (d_tighten.kws K) (d_tighten.at_ K) fd) : FnOk P w K mg base (L2.CX P w) (5 * d + 5) (d_tighten.at_ K) fd [("program" : Str), ("offers" : Str), ("limit" : Str)] (fun vs H Q E => vs.length = 3 ∧ spR (mkT K P w) (evFn 3 8 (e_tighten (pgN d))) vs H Q E) :=
  fn_okD (T := mkT K P w) (k := 5 * d + 4) Fd sc_tighten fun cdv A outer s H E hc lk hcd r => b_tighten M (pat_N d) ((glo_ok c).bd I.fk I.fn sc_tighten.nd r) ⟨kds_of hc, r⟩
theorem sc_least_price : FnScope N_least_price [("program" : Str), ("offers" : Str), ("limit" : Str)] (defScope s_least_price) := ⟨rfl, rfl, rfl, by decide +kernel, rfl, by decide +kernel, by decide +kernel⟩
theorem ok_least_price (c : HD.Says w h K) (M : Mg (mkT K P w) mg) (tb : ∀ p ∈ lamD, LamX.TabB base mg (He.cT K p).1 (He.cT K p).2) (I : At K P w mg base d) {fd : FuncData} (Fd : FunD K d_least_price.name d_least_price.qual d_least_price.params d_least_price.body d_least_price.scope (d_least_price.dvs K) (d_least_price.kws K) (d_least_price.at_ K) fd) : FnOk P w K mg base (L2.CX P w) (5 * d + 5) (d_least_price.at_ K) fd [("program" : Str), ("offers" : Str), ("limit" : Str)] (fun vs H Q E => vs.length = 3 ∧ spR (mkT K P w) (evFn 3 4 (e_least_price (pgN d))) vs H Q E) :=
  fn_okD (T := mkT K P w) (k := 5 * d + 4) Fd sc_least_price fun cdv A outer s H E hc lk hcd r => b_least_price M (pat_N d) ((glo_ok c).bd I.fk I.fn sc_least_price.nd r) ⟨kds_of hc, r⟩
theorem sc_Meets_init : FnScope N_Meets_init [("self" : Str), ("path" : Str)] (defScope s_Meets_init) := ⟨rfl, rfl, rfl, by decide +kernel, rfl, by decide +kernel, by decide +kernel⟩
theorem ok_Meets_init (c : HD.Says w h K) (M : Mg (mkT K P w) mg) (tb : ∀ p ∈ lamD, LamX.TabB base mg (He.cT K p).1 (He.cT K p).2) (I : At K P w mg base d) {fd : FuncData} (Fd : FunD K d_Meets_init.name d_Meets_init.qual d_Meets_init.params d_Meets_init.body d_Meets_init.scope (d_Meets_init.dvs K) (d_Meets_init.kws K) (d_Meets_init.at_ K) fd) : FnOk P w K mg base (L2.CX P w) (5 * d + 5) (d_Meets_init.at_ K) fd [("self" : Str), ("path" : Str)] (fun vs H Q E => vs.length = 2 ∧ spR (mkT K P w) (evFn 2 2 (e_Meets_init (pgN d))) vs H Q E) :=
  fn_okD (T := mkT K P w) (k := 5 * d + 4) Fd sc_Meets_init fun cdv A outer s H E hc lk hcd r => b_Meets_init M (pat_N d) ((glo_ok c).bd I.fk I.fn sc_Meets_init.nd r) ⟨kds_of hc, r⟩
theorem bd_Meets_init {fd : FuncData} (Fd : FunD K d_Meets_init.name d_Meets_init.qual d_Meets_init.params d_Meets_init.body d_Meets_init.scope (d_Meets_init.dvs K) (d_Meets_init.kws K) (d_Meets_init.at_ K) fd) : Binds K fd [("self" : Str), ("path" : Str)] [] := FunD.bindsN Fd fun _ _ _ _ _ _ us hl => match us, hl with
  | [_, _], _ => rfl
theorem fs_Meets_init (c : HD.Says w h K) (M : Mg (mkT K P w) mg) (tb : ∀ p ∈ lamD, LamX.TabB base mg (He.cT K p).1 (He.cT K p).2) (I : At K P w mg base d) : FnS (mkT K P w) P w mg base (5 * (d + 1)) (d_Meets_init.at_ K) (evFn 2 2 (e_Meets_init (pgN d))) := by
  obtain ⟨fd, Fd⟩ := c.dff 74 (d := d_Meets_init)
  exact fn_raw (T := mkT K P w) (ok_Meets_init c M tb I Fd) (bd_Meets_init Fd)
theorem sc_Meets_eq : FnScope N_Meets_eq [("self" : Str), ("other" : Str)] (defScope s_Meets_eq) := ⟨rfl, rfl, rfl, by decide +kernel, rfl, by decide +kernel, by decide +kernel⟩
theorem ok_Meets_eq (c : HD.Says w h K) (M : Mg (mkT K P w) mg) (tb : ∀ p ∈ lamD, LamX.TabB base mg (He.cT K p).1 (He.cT K p).2) (I : At K P w mg base d) {fd : FuncData} (Fd : FunD K d_Meets_eq.name d_Meets_eq.qual d_Meets_eq.params d_Meets_eq.body d_Meets_eq.scope (d_Meets_eq.dvs K) (d_Meets_eq.kws K) (d_Meets_eq.at_ K) fd) : FnOk P w K mg base (L2.CX P w) (5 * d + 5) (d_Meets_eq.at_ K) fd [("self" : Str), ("other" : Str)] (fun vs H Q E => vs.length = 2 ∧ spR (mkT K P w) (evFn 2 2 (e_Meets_eq (pgN d))) vs H Q E) :=
  fn_okD (T := mkT K P w) (k := 5 * d + 4) Fd sc_Meets_eq fun cdv A outer s H E hc lk hcd r => b_Meets_eq M (pat_N d) ((glo_ok c).bd I.fk I.fn sc_Meets_eq.nd r) ⟨kds_of hc, r⟩
theorem bd_Meets_eq {fd : FuncData} (Fd : FunD K d_Meets_eq.name d_Meets_eq.qual d_Meets_eq.params d_Meets_eq.body d_Meets_eq.scope (d_Meets_eq.dvs K) (d_Meets_eq.kws K) (d_Meets_eq.at_ K) fd) : Binds K fd [("self" : Str), ("other" : Str)] [] := FunD.bindsN Fd fun _ _ _ _ _ _ us hl => match us, hl with
  | [_, _], _ => rfl
theorem fs_Meets_eq (c : HD.Says w h K) (M : Mg (mkT K P w) mg) (tb : ∀ p ∈ lamD, LamX.TabB base mg (He.cT K p).1 (He.cT K p).2) (I : At K P w mg base d) : FnS (mkT K P w) P w mg base (5 * (d + 1)) (d_Meets_eq.at_ K) (evFn 2 2 (e_Meets_eq (pgN d))) := by
  obtain ⟨fd, Fd⟩ := c.dff 75 (d := d_Meets_eq)
  exact fn_raw (T := mkT K P w) (ok_Meets_eq c M tb I Fd) (bd_Meets_eq Fd)
theorem sc_Meets_shows : FnScope N_Meets_shows [("self" : Str), ("program" : Str), ("place" : Str), ("one" : Str), ("other" : Str), ("thing" : Str)] (defScope s_Meets_shows) := ⟨rfl, rfl, rfl, by decide +kernel, rfl, by decide +kernel, by decide +kernel⟩
theorem ok_Meets_shows (c : HD.Says w h K) (M : Mg (mkT K P w) mg) (tb : ∀ p ∈ lamD, LamX.TabB base mg (He.cT K p).1 (He.cT K p).2) (I : At K P w mg base d) {fd : FuncData} (Fd : FunD K d_Meets_shows.name d_Meets_shows.qual d_Meets_shows.params d_Meets_shows.body d_Meets_shows.scope (d_Meets_shows.dvs K) (d_Meets_shows.kws K) (d_Meets_shows.at_ K) fd) : FnOk P w K mg base (L2.CX P w) (5 * d + 5) (d_Meets_shows.at_ K) fd [("self" : Str), ("program" : Str), ("place" : Str), ("one" : Str), ("other" : Str), ("thing" : Str)] (fun vs H Q E => vs.length = 6 ∧ spR (mkT K P w) (evFn 6 7 (e_Meets_shows (pgN d))) vs H Q E) :=
  fn_okD (T := mkT K P w) (k := 5 * d + 4) Fd sc_Meets_shows fun cdv A outer s H E hc lk hcd r => b_Meets_shows M (pat_N d) ((glo_ok c).bd I.fk I.fn sc_Meets_shows.nd r) ⟨kds_of hc, r⟩
theorem bd_Meets_shows {fd : FuncData} (Fd : FunD K d_Meets_shows.name d_Meets_shows.qual d_Meets_shows.params d_Meets_shows.body d_Meets_shows.scope (d_Meets_shows.dvs K) (d_Meets_shows.kws K) (d_Meets_shows.at_ K) fd) : Binds K fd [("self" : Str), ("program" : Str), ("place" : Str), ("one" : Str), ("other" : Str), ("thing" : Str)] [] := FunD.bindsN Fd fun _ _ _ _ _ _ us hl => match us, hl with
  | [_, _, _, _, _, _], _ => rfl
theorem fs_Meets_shows (c : HD.Says w h K) (M : Mg (mkT K P w) mg) (tb : ∀ p ∈ lamD, LamX.TabB base mg (He.cT K p).1 (He.cT K p).2) (I : At K P w mg base d) : FnS (mkT K P w) P w mg base (5 * (d + 1)) (d_Meets_shows.at_ K) (evFn 6 7 (e_Meets_shows (pgN d))) := by
  obtain ⟨fd, Fd⟩ := c.dff 76 (d := d_Meets_shows)
  exact fn_raw (T := mkT K P w) (ok_Meets_shows c M tb I Fd) (bd_Meets_shows Fd)
theorem sc_Apart_init : FnScope N_Apart_init [("self" : Str), ("stands" : Str)] (defScope s_Apart_init) := ⟨rfl, rfl, rfl, by decide +kernel, rfl, by decide +kernel, by decide +kernel⟩
theorem ok_Apart_init (c : HD.Says w h K) (M : Mg (mkT K P w) mg) (tb : ∀ p ∈ lamD, LamX.TabB base mg (He.cT K p).1 (He.cT K p).2) (I : At K P w mg base d) {fd : FuncData} (Fd : FunD K d_Apart_init.name d_Apart_init.qual d_Apart_init.params d_Apart_init.body d_Apart_init.scope (d_Apart_init.dvs K) (d_Apart_init.kws K) (d_Apart_init.at_ K) fd) : FnOk P w K mg base (L2.CX P w) (5 * d + 5) (d_Apart_init.at_ K) fd [("self" : Str), ("stands" : Str)] (fun vs H Q E => vs.length = 2 ∧ spR (mkT K P w) (evFn 2 2 (e_Apart_init (pgN d))) vs H Q E) :=
  fn_okD (T := mkT K P w) (k := 5 * d + 4) Fd sc_Apart_init fun cdv A outer s H E hc lk hcd r => b_Apart_init M (pat_N d) ((glo_ok c).bd I.fk I.fn sc_Apart_init.nd r) ⟨kds_of hc, r⟩
theorem bd_Apart_init {fd : FuncData} (Fd : FunD K d_Apart_init.name d_Apart_init.qual d_Apart_init.params d_Apart_init.body d_Apart_init.scope (d_Apart_init.dvs K) (d_Apart_init.kws K) (d_Apart_init.at_ K) fd) : Binds K fd [("self" : Str), ("stands" : Str)] [] := FunD.bindsN Fd fun _ _ _ _ _ _ us hl => match us, hl with
  | [_, _], _ => rfl
theorem fs_Apart_init (c : HD.Says w h K) (M : Mg (mkT K P w) mg) (tb : ∀ p ∈ lamD, LamX.TabB base mg (He.cT K p).1 (He.cT K p).2) (I : At K P w mg base d) : FnS (mkT K P w) P w mg base (5 * (d + 1)) (d_Apart_init.at_ K) (evFn 2 2 (e_Apart_init (pgN d))) := by
  obtain ⟨fd, Fd⟩ := c.dff 77 (d := d_Apart_init)
  exact fn_raw (T := mkT K P w) (ok_Apart_init c M tb I Fd) (bd_Apart_init Fd)
theorem sc_Apart_eq : FnScope N_Apart_eq [("self" : Str), ("other" : Str)] (defScope s_Apart_eq) := ⟨rfl, rfl, rfl, by decide +kernel, rfl, by decide +kernel, by decide +kernel⟩
theorem ok_Apart_eq (c : HD.Says w h K) (M : Mg (mkT K P w) mg) (tb : ∀ p ∈ lamD, LamX.TabB base mg (He.cT K p).1 (He.cT K p).2) (I : At K P w mg base d) {fd : FuncData} (Fd : FunD K d_Apart_eq.name d_Apart_eq.qual d_Apart_eq.params d_Apart_eq.body d_Apart_eq.scope (d_Apart_eq.dvs K) (d_Apart_eq.kws K) (d_Apart_eq.at_ K) fd) : FnOk P w K mg base (L2.CX P w) (5 * d + 5) (d_Apart_eq.at_ K) fd [("self" : Str), ("other" : Str)] (fun vs H Q E => vs.length = 2 ∧ spR (mkT K P w) (evFn 2 2 (e_Apart_eq (pgN d))) vs H Q E) :=
  fn_okD (T := mkT K P w) (k := 5 * d + 4) Fd sc_Apart_eq fun cdv A outer s H E hc lk hcd r => b_Apart_eq M (pat_N d) ((glo_ok c).bd I.fk I.fn sc_Apart_eq.nd r) ⟨kds_of hc, r⟩
theorem bd_Apart_eq {fd : FuncData} (Fd : FunD K d_Apart_eq.name d_Apart_eq.qual d_Apart_eq.params d_Apart_eq.body d_Apart_eq.scope (d_Apart_eq.dvs K) (d_Apart_eq.kws K) (d_Apart_eq.at_ K) fd) : Binds K fd [("self" : Str), ("other" : Str)] [] := FunD.bindsN Fd fun _ _ _ _ _ _ us hl => match us, hl with
  | [_, _], _ => rfl
theorem fs_Apart_eq (c : HD.Says w h K) (M : Mg (mkT K P w) mg) (tb : ∀ p ∈ lamD, LamX.TabB base mg (He.cT K p).1 (He.cT K p).2) (I : At K P w mg base d) : FnS (mkT K P w) P w mg base (5 * (d + 1)) (d_Apart_eq.at_ K) (evFn 2 2 (e_Apart_eq (pgN d))) := by
  obtain ⟨fd, Fd⟩ := c.dff 78 (d := d_Apart_eq)
  exact fn_raw (T := mkT K P w) (ok_Apart_eq c M tb I Fd) (bd_Apart_eq Fd)
theorem sc_Apart_shows : FnScope N_Apart_shows [("self" : Str), ("program" : Str), ("place" : Str), ("one" : Str), ("other" : Str), ("thing" : Str)] (defScope s_Apart_shows) := ⟨rfl, rfl, rfl, by decide +kernel, rfl, by decide +kernel, by decide +kernel⟩
theorem ok_Apart_shows (c : HD.Says w h K) (M : Mg (mkT K P w) mg) (tb : ∀ p ∈ lamD, LamX.TabB base mg (He.cT K p).1 (He.cT K p).2) (I : At K P w mg base d) {fd : FuncData} (Fd : FunD K d_Apart_shows.name d_Apart_shows.qual d_Apart_shows.params d_Apart_shows.body d_Apart_shows.scope (d_Apart_shows.dvs K) (d_Apart_shows.kws K) (d_Apart_shows.at_ K) fd) : FnOk P w K mg base (L2.CX P w) (5 * d + 5) (d_Apart_shows.at_ K) fd [("self" : Str), ("program" : Str), ("place" : Str), ("one" : Str), ("other" : Str), ("thing" : Str)] (fun vs H Q E => vs.length = 6 ∧ spR (mkT K P w) (evFn 6 10 (e_Apart_shows (pgN d))) vs H Q E) :=
  fn_okD (T := mkT K P w) (k := 5 * d + 4) Fd sc_Apart_shows fun cdv A outer s H E hc lk hcd r => b_Apart_shows M (pat_N d) ((glo_ok c).bd I.fk I.fn sc_Apart_shows.nd r) ⟨kds_of hc, r⟩
theorem bd_Apart_shows {fd : FuncData} (Fd : FunD K d_Apart_shows.name d_Apart_shows.qual d_Apart_shows.params d_Apart_shows.body d_Apart_shows.scope (d_Apart_shows.dvs K) (d_Apart_shows.kws K) (d_Apart_shows.at_ K) fd) : Binds K fd [("self" : Str), ("program" : Str), ("place" : Str), ("one" : Str), ("other" : Str), ("thing" : Str)] [] := FunD.bindsN Fd fun _ _ _ _ _ _ us hl => match us, hl with
  | [_, _, _, _, _, _], _ => rfl
theorem fs_Apart_shows (c : HD.Says w h K) (M : Mg (mkT K P w) mg) (tb : ∀ p ∈ lamD, LamX.TabB base mg (He.cT K p).1 (He.cT K p).2) (I : At K P w mg base d) : FnS (mkT K P w) P w mg base (5 * (d + 1)) (d_Apart_shows.at_ K) (evFn 6 10 (e_Apart_shows (pgN d))) := by
  obtain ⟨fd, Fd⟩ := c.dff 79 (d := d_Apart_shows)
  exact fn_raw (T := mkT K P w) (ok_Apart_shows c M tb I Fd) (bd_Apart_shows Fd)
theorem sc_check_place : FnScope N_check_place [("program" : Str), ("place" : Str)] (defScope s_check_place) := ⟨rfl, rfl, rfl, by decide +kernel, rfl, by decide +kernel, by decide +kernel⟩
theorem ok_check_place (c : HD.Says w h K) (M : Mg (mkT K P w) mg) (tb : ∀ p ∈ lamD, LamX.TabB base mg (He.cT K p).1 (He.cT K p).2) (I : At K P w mg base d) {fd : FuncData} (Fd : FunD K d_check_place.name d_check_place.qual d_check_place.params d_check_place.body d_check_place.scope (d_check_place.dvs K) (d_check_place.kws K) (d_check_place.at_ K) fd) : FnOk P w K mg base (L2.CX P w) (5 * d + 5) (d_check_place.at_ K) fd [("program" : Str), ("place" : Str)] (fun vs H Q E => vs.length = 2 ∧ spR (mkT K P w) (evFn 2 2 (e_check_place (pgN d))) vs H Q E) :=
  fn_okD (T := mkT K P w) (k := 5 * d + 4) Fd sc_check_place fun cdv A outer s H E hc lk hcd r => b_check_place M (pat_N d) ((glo_ok c).bd I.fk I.fn sc_check_place.nd r) ⟨kds_of hc, r⟩
theorem bd_check_place {fd : FuncData} (Fd : FunD K d_check_place.name d_check_place.qual d_check_place.params d_check_place.body d_check_place.scope (d_check_place.dvs K) (d_check_place.kws K) (d_check_place.at_ K) fd) : Binds K fd [("program" : Str), ("place" : Str)] [] := FunD.bindsN Fd fun _ _ _ _ _ _ us hl => match us, hl with
  | [_, _], _ => rfl
theorem fs_check_place (c : HD.Says w h K) (M : Mg (mkT K P w) mg) (tb : ∀ p ∈ lamD, LamX.TabB base mg (He.cT K p).1 (He.cT K p).2) (I : At K P w mg base d) : FnS (mkT K P w) P w mg base (5 * (d + 1)) (d_check_place.at_ K) (evFn 2 2 (e_check_place (pgN d))) := by
  obtain ⟨fd, Fd⟩ := c.dff 80 (d := d_check_place)
  exact fn_raw (T := mkT K P w) (ok_check_place c M tb I Fd) (bd_check_place Fd)
theorem sc_check_thing : FnScope N_check_thing [("thing" : Str)] (defScope s_check_thing) := ⟨rfl, rfl, rfl, by decide +kernel, rfl, by decide +kernel, by decide +kernel⟩
theorem ok_check_thing (c : HD.Says w h K) (M : Mg (mkT K P w) mg) (tb : ∀ p ∈ lamD, LamX.TabB base mg (He.cT K p).1 (He.cT K p).2) (I : At K P w mg base d) {fd : FuncData} (Fd : FunD K d_check_thing.name d_check_thing.qual d_check_thing.params d_check_thing.body d_check_thing.scope (d_check_thing.dvs K) (d_check_thing.kws K) (d_check_thing.at_ K) fd) : FnOk P w K mg base (L2.CX P w) (5 * d + 5) (d_check_thing.at_ K) fd [("thing" : Str)] (fun vs H Q E => vs.length = 1 ∧ spR (mkT K P w) (evFn 1 1 (e_check_thing (pgN d))) vs H Q E) :=
  fn_okD (T := mkT K P w) (k := 5 * d + 4) Fd sc_check_thing fun cdv A outer s H E hc lk hcd r => b_check_thing M (pat_N d) ((glo_ok c).bd I.fk I.fn sc_check_thing.nd r) ⟨kds_of hc, r⟩
theorem bd_check_thing {fd : FuncData} (Fd : FunD K d_check_thing.name d_check_thing.qual d_check_thing.params d_check_thing.body d_check_thing.scope (d_check_thing.dvs K) (d_check_thing.kws K) (d_check_thing.at_ K) fd) : Binds K fd [("thing" : Str)] [] := FunD.bindsN Fd fun _ _ _ _ _ _ us hl => match us, hl with
  | [_], _ => rfl
theorem fs_check_thing (c : HD.Says w h K) (M : Mg (mkT K P w) mg) (tb : ∀ p ∈ lamD, LamX.TabB base mg (He.cT K p).1 (He.cT K p).2) (I : At K P w mg base d) : FnS (mkT K P w) P w mg base (5 * (d + 1)) (d_check_thing.at_ K) (evFn 1 1 (e_check_thing (pgN d))) := by
  obtain ⟨fd, Fd⟩ := c.dff 81 (d := d_check_thing)
  exact fn_raw (T := mkT K P w) (ok_check_thing c M tb I Fd) (bd_check_thing Fd)
theorem sc_is_register : FnScope N_is_register [("program" : Str), ("value" : Str)] (defScope s_is_register) := ⟨rfl, rfl, rfl, by decide +kernel, rfl, by decide +kernel, by decide +kernel⟩
theorem ok_is_register (c : HD.Says w h K) (M : Mg (mkT K P w) mg) (tb : ∀ p ∈ lamD, LamX.TabB base mg (He.cT K p).1 (He.cT K p).2) (I : At K P w mg base d) {fd : FuncData} (Fd : FunD K d_is_register.name d_is_register.qual d_is_register.params d_is_register.body d_is_register.scope (d_is_register.dvs K) (d_is_register.kws K) (d_is_register.at_ K) fd) : FnOk P w K mg base (L2.CX P w) (5 * d + 5) (d_is_register.at_ K) fd [("program" : Str), ("value" : Str)] (fun vs H Q E => vs.length = 2 ∧ spR (mkT K P w) (evFn 2 2 (e_is_register (pgN d))) vs H Q E) :=
  fn_okD (T := mkT K P w) (k := 5 * d + 4) Fd sc_is_register fun cdv A outer s H E hc lk hcd r => b_is_register M (pat_N d) ((glo_ok c).bd I.fk I.fn sc_is_register.nd r) ⟨kds_of hc, r⟩
theorem bd_is_register {fd : FuncData} (Fd : FunD K d_is_register.name d_is_register.qual d_is_register.params d_is_register.body d_is_register.scope (d_is_register.dvs K) (d_is_register.kws K) (d_is_register.at_ K) fd) : Binds K fd [("program" : Str), ("value" : Str)] [] := FunD.bindsN Fd fun _ _ _ _ _ _ us hl => match us, hl with
  | [_, _], _ => rfl
theorem fs_is_register (c : HD.Says w h K) (M : Mg (mkT K P w) mg) (tb : ∀ p ∈ lamD, LamX.TabB base mg (He.cT K p).1 (He.cT K p).2) (I : At K P w mg base d) : FnS (mkT K P w) P w mg base (5 * (d + 1)) (d_is_register.at_ K) (evFn 2 2 (e_is_register (pgN d))) := by
  obtain ⟨fd, Fd⟩ := c.dff 82 (d := d_is_register)
  exact fn_raw (T := mkT K P w) (ok_is_register c M tb I Fd) (bd_is_register Fd)
theorem sc_check_meeting : FnScope N_check_meeting [("program" : Str), ("place" : Str), ("one" : Str), ("other" : Str), ("thing" : Str)] (defScope s_check_meeting) := ⟨rfl, rfl, rfl, by decide +kernel, rfl, by decide +kernel, by decide +kernel⟩
theorem ok_check_meeting (c : HD.Says w h K) (M : Mg (mkT K P w) mg) (tb : ∀ p ∈ lamD, LamX.TabB base mg (He.cT K p).1 (He.cT K p).2) (I : At K P w mg base d) {fd : FuncData} (Fd : FunD K d_check_meeting.name d_check_meeting.qual d_check_meeting.params d_check_meeting.body d_check_meeting.scope (d_check_meeting.dvs K) (d_check_meeting.kws K) (d_check_meeting.at_ K) fd) : FnOk P w K mg base (L2.CX P w) (5 * d + 5) (d_check_meeting.at_ K) fd [("program" : Str), ("place" : Str), ("one" : Str), ("other" : Str), ("thing" : Str)] (fun vs H Q E => vs.length = 5 ∧ spR (mkT K P w) (evFn 5 5 (e_check_meeting (pgN d))) vs H Q E) :=
  fn_okD (T := mkT K P w) (k := 5 * d + 4) Fd sc_check_meeting fun cdv A outer s H E hc lk hcd r => b_check_meeting M (pat_N d) ((glo_ok c).bd I.fk I.fn sc_check_meeting.nd r) ⟨kds_of hc, r⟩
theorem bd_check_meeting {fd : FuncData} (Fd : FunD K d_check_meeting.name d_check_meeting.qual d_check_meeting.params d_check_meeting.body d_check_meeting.scope (d_check_meeting.dvs K) (d_check_meeting.kws K) (d_check_meeting.at_ K) fd) : Binds K fd [("program" : Str), ("place" : Str), ("one" : Str), ("other" : Str), ("thing" : Str)] [] := FunD.bindsN Fd fun _ _ _ _ _ _ us hl => match us, hl with
  | [_, _, _, _, _], _ => rfl
theorem fs_check_meeting (c : HD.Says w h K) (M : Mg (mkT K P w) mg) (tb : ∀ p ∈ lamD, LamX.TabB base mg (He.cT K p).1 (He.cT K p).2) (I : At K P w mg base d) : FnS (mkT K P w) P w mg base (5 * (d + 1)) (d_check_meeting.at_ K) (evFn 5 5 (e_check_meeting (pgN d))) := by
  obtain ⟨fd, Fd⟩ := c.dff 83 (d := d_check_meeting)
  exact fn_raw (T := mkT K P w) (ok_check_meeting c M tb I Fd) (bd_check_meeting Fd)
theorem sc_does_meet : FnScope N_does_meet [("stand" : Str), ("place" : Str), ("names" : Str), ("thing" : Str)] (defScope s_does_meet) := ⟨rfl, rfl, rfl, by decide +kernel, rfl, by decide +kernel, by decide +kernel⟩
theorem ok_does_meet (c : HD.Says w h K) (M : Mg (mkT K P w) mg) (tb : ∀ p ∈ lamD, LamX.TabB base mg (He.cT K p).1 (He.cT K p).2) (I : At K P w mg base d) {fd : FuncData} (Fd : FunD K d_does_meet.name d_does_meet.qual d_does_meet.params d_does_meet.body d_does_meet.scope (d_does_meet.dvs K) (d_does_meet.kws K) (d_does_meet.at_ K) fd) : FnOk P w K mg base (L2.CX P w) (5 * d + 5) (d_does_meet.at_ K) fd [("stand" : Str), ("place" : Str), ("names" : Str), ("thing" : Str)] (fun vs H Q E => vs.length = 4 ∧ spR (mkT K P w) (evFn 4 7 (e_does_meet (pgN d))) vs H Q E) :=
  fn_okD (T := mkT K P w) (k := 5 * d + 4) Fd sc_does_meet fun cdv A outer s H E hc lk hcd r => b_does_meet M (pat_N d) ((glo_ok c).bd I.fk I.fn sc_does_meet.nd r) ⟨kds_of hc, r⟩
theorem bd_does_meet {fd : FuncData} (Fd : FunD K d_does_meet.name d_does_meet.qual d_does_meet.params d_does_meet.body d_does_meet.scope (d_does_meet.dvs K) (d_does_meet.kws K) (d_does_meet.at_ K) fd) : Binds K fd [("stand" : Str), ("place" : Str), ("names" : Str), ("thing" : Str)] [] := FunD.bindsN Fd fun _ _ _ _ _ _ us hl => match us, hl with
  | [_, _, _, _], _ => rfl
theorem fs_does_meet (c : HD.Says w h K) (M : Mg (mkT K P w) mg) (tb : ∀ p ∈ lamD, LamX.TabB base mg (He.cT K p).1 (He.cT K p).2) (I : At K P w mg base d) : FnS (mkT K P w) P w mg base (5 * (d + 1)) (d_does_meet.at_ K) (evFn 4 7 (e_does_meet (pgN d))) := by
  obtain ⟨fd, Fd⟩ := c.dff 84 (d := d_does_meet)
  exact fn_raw (T := mkT K P w) (ok_does_meet c M tb I Fd) (bd_does_meet Fd)
theorem sc_met : FnScope N_met [("program" : Str), ("place" : Str), ("names" : Str), ("thing" : Str)] (defScope s_met) := ⟨rfl, rfl, rfl, by decide +kernel, rfl, by decide +kernel, by decide +kernel⟩
theorem ok_met (c : HD.Says w h K) (M : Mg (mkT K P w) mg) (tb : ∀ p ∈ lamD, LamX.TabB base mg (He.cT K p).1 (He.cT K p).2) (I : At K P w mg base d) {fd : FuncData} (Fd : FunD K d_met.name d_met.qual d_met.params d_met.body d_met.scope (d_met.dvs K) (d_met.kws K) (d_met.at_ K) fd) : FnOk P w K mg base (L2.CX P w) (5 * d + 5) (d_met.at_ K) fd [("program" : Str), ("place" : Str), ("names" : Str), ("thing" : Str)] (fun vs H Q E => vs.length = 4 ∧ spR (mkT K P w) (evFn 4 8 (e_met (pgN d))) vs H Q E) :=
  fn_okD (T := mkT K P w) (k := 5 * d + 4) Fd sc_met fun cdv A outer s H E hc lk hcd r => b_met M (pat_N d) ((glo_ok c).bd I.fk I.fn sc_met.nd r) ⟨kds_of hc, r⟩
theorem bd_met {fd : FuncData} (Fd : FunD K d_met.name d_met.qual d_met.params d_met.body d_met.scope (d_met.dvs K) (d_met.kws K) (d_met.at_ K) fd) : Binds K fd [("program" : Str), ("place" : Str), ("names" : Str), ("thing" : Str)] [] := FunD.bindsN Fd fun _ _ _ _ _ _ us hl => match us, hl with
  | [_, _, _, _], _ => rfl
theorem fs_met (c : HD.Says w h K) (M : Mg (mkT K P w) mg) (tb : ∀ p ∈ lamD, LamX.TabB base mg (He.cT K p).1 (He.cT K p).2) (I : At K P w mg base d) : FnS (mkT K P w) P w mg base (5 * (d + 1)) (d_met.at_ K) (evFn 4 8 (e_met (pgN d))) := by
  obtain ⟨fd, Fd⟩ := c.dff 85 (d := d_met)
  exact fn_raw (T := mkT K P w) (ok_met c M tb I Fd) (bd_met Fd)
theorem sc_meet : FnScope N_meet [("program" : Str), ("place" : Str), ("one" : Str), ("other" : Str), ("thing" : Str)] (defScope s_meet) := ⟨rfl, rfl, rfl, by decide +kernel, rfl, by decide +kernel, by decide +kernel⟩
theorem ok_meet (c : HD.Says w h K) (M : Mg (mkT K P w) mg) (tb : ∀ p ∈ lamD, LamX.TabB base mg (He.cT K p).1 (He.cT K p).2) (I : At K P w mg base d) {fd : FuncData} (Fd : FunD K d_meet.name d_meet.qual d_meet.params d_meet.body d_meet.scope (d_meet.dvs K) (d_meet.kws K) (d_meet.at_ K) fd) : FnOk P w K mg base (L2.CX P w) (5 * d + 5) (d_meet.at_ K) fd [("program" : Str), ("place" : Str), ("one" : Str), ("other" : Str), ("thing" : Str)] (fun vs H Q E => vs.length = 5 ∧ spR (mkT K P w) (evFn 5 5 (e_meet (pgN d))) vs H Q E) :=
  fn_okD (T := mkT K P w) (k := 5 * d + 4) Fd sc_meet fun cdv A outer s H E hc lk hcd r => b_meet M (pat_N d) ((glo_ok c).bd I.fk I.fn sc_meet.nd r) ⟨kds_of hc, r⟩
theorem bd_meet {fd : FuncData} (Fd : FunD K d_meet.name d_meet.qual d_meet.params d_meet.body d_meet.scope (d_meet.dvs K) (d_meet.kws K) (d_meet.at_ K) fd) : Binds K fd [("program" : Str), ("place" : Str), ("one" : Str), ("other" : Str), ("thing" : Str)] [] := FunD.bindsN Fd fun _ _ _ _ _ _ us hl => match us, hl with
  | [_, _, _, _, _], _ => rfl
theorem fs_meet (c : HD.Says w h K) (M : Mg (mkT K P w) mg) (tb : ∀ p ∈ lamD, LamX.TabB base mg (He.cT K p).1 (He.cT K p).2) (I : At K P w mg base d) : FnS (mkT K P w) P w mg base (5 * (d + 1)) (d_meet.at_ K) (evFn 5 5 (e_meet (pgN d))) := by
  obtain ⟨fd, Fd⟩ := c.dff 86 (d := d_meet)
  exact fn_raw (T := mkT K P w) (ok_meet c M tb I Fd) (bd_meet Fd)
theorem sc_can_meet : FnScope N_can_meet [("program" : Str), ("place" : Str), ("one" : Str), ("other" : Str), ("thing" : Str)] (defScope s_can_meet) := ⟨rfl, rfl, rfl, by decide +kernel, rfl, by decide +kernel, by decide +kernel⟩
theorem ok_can_meet (c : HD.Says w h K) (M : Mg (mkT K P w) mg) (tb : ∀ p ∈ lamD, LamX.TabB base mg (He.cT K p).1 (He.cT K p).2) (I : At K P w mg base d) {fd : FuncData} (Fd : FunD K d_can_meet.name d_can_meet.qual d_can_meet.params d_can_meet.body d_can_meet.scope (d_can_meet.dvs K) (d_can_meet.kws K) (d_can_meet.at_ K) fd) : FnOk P w K mg base (L2.CX P w) (5 * d + 5) (d_can_meet.at_ K) fd [("program" : Str), ("place" : Str), ("one" : Str), ("other" : Str), ("thing" : Str)] (fun vs H Q E => vs.length = 5 ∧ spR (mkT K P w) (evFn 5 5 (e_can_meet (pgN d))) vs H Q E) :=
  fn_okD (T := mkT K P w) (k := 5 * d + 4) Fd sc_can_meet fun cdv A outer s H E hc lk hcd r => b_can_meet M (pat_N d) ((glo_ok c).bd I.fk I.fn sc_can_meet.nd r) ⟨kds_of hc, r⟩
theorem bd_can_meet {fd : FuncData} (Fd : FunD K d_can_meet.name d_can_meet.qual d_can_meet.params d_can_meet.body d_can_meet.scope (d_can_meet.dvs K) (d_can_meet.kws K) (d_can_meet.at_ K) fd) : Binds K fd [("program" : Str), ("place" : Str), ("one" : Str), ("other" : Str), ("thing" : Str)] [] := FunD.bindsN Fd fun _ _ _ _ _ _ us hl => match us, hl with
  | [_, _, _, _, _], _ => rfl
theorem fs_can_meet (c : HD.Says w h K) (M : Mg (mkT K P w) mg) (tb : ∀ p ∈ lamD, LamX.TabB base mg (He.cT K p).1 (He.cT K p).2) (I : At K P w mg base d) : FnS (mkT K P w) P w mg base (5 * (d + 1)) (d_can_meet.at_ K) (evFn 5 5 (e_can_meet (pgN d))) := by
  obtain ⟨fd, Fd⟩ := c.dff 87 (d := d_can_meet)
  exact fn_raw (T := mkT K P w) (ok_can_meet c M tb I Fd) (bd_can_meet Fd)
theorem sc_pairs_that_meet : FnScope N_pairs_that_meet [("program" : Str), ("place" : Str), ("thing" : Str)] (defScope s_pairs_that_meet) := ⟨rfl, rfl, rfl, by decide +kernel, rfl, by decide +kernel, by decide +kernel⟩
theorem ok_pairs_that_meet (c : HD.Says w h K) (M : Mg (mkT K P w) mg) (tb : ∀ p ∈ lamD, LamX.TabB base mg (He.cT K p).1 (He.cT K p).2) (I : At K P w mg base d) {fd : FuncData} (Fd : FunD K d_pairs_that_meet.name d_pairs_that_meet.qual d_pairs_that_meet.params d_pairs_that_meet.body d_pairs_that_meet.scope (d_pairs_that_meet.dvs K) (d_pairs_that_meet.kws K) (d_pairs_that_meet.at_ K) fd) : FnOk P w K mg base (L2.CX P w) (5 * d + 5) (d_pairs_that_meet.at_ K) fd [("program" : Str), ("place" : Str), ("thing" : Str)] (fun vs H Q E => vs.length = 3 ∧ spR (mkT K P w) (evFn 3 11 (e_pairs_that_meet (pgN d))) vs H Q E) :=
  fn_okD (T := mkT K P w) (k := 5 * d + 4) Fd sc_pairs_that_meet fun cdv A outer s H E hc lk hcd r => b_pairs_that_meet M (pat_N d) ((glo_ok c).bd I.fk I.fn sc_pairs_that_meet.nd r) ⟨kds_of hc, r⟩
theorem bd_pairs_that_meet {fd : FuncData} (Fd : FunD K d_pairs_that_meet.name d_pairs_that_meet.qual d_pairs_that_meet.params d_pairs_that_meet.body d_pairs_that_meet.scope (d_pairs_that_meet.dvs K) (d_pairs_that_meet.kws K) (d_pairs_that_meet.at_ K) fd) : Binds K fd [("program" : Str), ("place" : Str), ("thing" : Str)] [] := FunD.bindsN Fd fun _ _ _ _ _ _ us hl => match us, hl with
  | [_, _, _], _ => rfl
theorem fs_pairs_that_meet (c : HD.Says w h K) (M : Mg (mkT K P w) mg) (tb : ∀ p ∈ lamD, LamX.TabB base mg (He.cT K p).1 (He.cT K p).2) (I : At K P w mg base d) : FnS (mkT K P w) P w mg base (5 * (d + 1)) (d_pairs_that_meet.at_ K) (evFn 3 11 (e_pairs_that_meet (pgN d))) := by
  obtain ⟨fd, Fd⟩ := c.dff 88 (d := d_pairs_that_meet)
  exact fn_raw (T := mkT K P w) (ok_pairs_that_meet c M tb I Fd) (bd_pairs_that_meet Fd)
theorem sc__law_cuts : FnScope N__law_cuts [] (defScope s__law_cuts) := ⟨rfl, rfl, rfl, by decide +kernel, rfl, by decide +kernel, by decide +kernel⟩
theorem ok__law_cuts (c : HD.Says w h K) (M : Mg (mkT K P w) mg) (tb : ∀ p ∈ lamD, LamX.TabB base mg (He.cT K p).1 (He.cT K p).2) (I : At K P w mg base d) {fd : FuncData} (Fd : FunD K d__law_cuts.name d__law_cuts.qual d__law_cuts.params d__law_cuts.body d__law_cuts.scope (d__law_cuts.dvs K) (d__law_cuts.kws K) (d__law_cuts.at_ K) fd) : FnOk P w K mg base (L2.CX P w) (5 * d + 5) (d__law_cuts.at_ K) fd [] (fun vs H Q E => vs.length = 0 ∧ spR (mkT K P w) (evFn 0 1 (e__law_cuts (pgN d))) vs H Q E) :=
  fn_okD (T := mkT K P w) (k := 5 * d + 4) Fd sc__law_cuts fun cdv A outer s H E hc lk hcd r => b__law_cuts M (pat_N d) ((glo_ok c).bd I.fk I.fn sc__law_cuts.nd r) ⟨kds_of hc, r⟩
theorem bd__law_cuts {fd : FuncData} (Fd : FunD K d__law_cuts.name d__law_cuts.qual d__law_cuts.params d__law_cuts.body d__law_cuts.scope (d__law_cuts.dvs K) (d__law_cuts.kws K) (d__law_cuts.at_ K) fd) : Binds K fd [] [] := FunD.bindsN Fd fun _ _ _ _ _ _ us hl => match us, hl with
  | [], _ => rfl
theorem fs__law_cuts (c : HD.Says w h K) (M : Mg (mkT K P w) mg) (tb : ∀ p ∈ lamD, LamX.TabB base mg (He.cT K p).1 (He.cT K p).2) (I : At K P w mg base d) : FnS (mkT K P w) P w mg base (5 * (d + 1)) (d__law_cuts.at_ K) (evFn 0 1 (e__law_cuts (pgN d))) := by
  obtain ⟨fd, Fd⟩ := c.dff 89 (d := d__law_cuts)
  exact fn_raw (T := mkT K P w) (ok__law_cuts c M tb I Fd) (bd__law_cuts Fd)
theorem sc__law_meeting_right : FnScope N__law_meeting_right [] (defScope s__law_meeting_right) := ⟨rfl, rfl, rfl, by decide +kernel, rfl, by decide +kernel, by decide +kernel⟩
theorem ok__law_meeting_right (c : HD.Says w h K) (M : Mg (mkT K P w) mg) (tb : ∀ p ∈ lamD, LamX.TabB base mg (He.cT K p).1 (He.cT K p).2) (I : At K P w mg base d) {fd : FuncData} (Fd : FunD K d__law_meeting_right.name d__law_meeting_right.qual d__law_meeting_right.params d__law_meeting_right.body d__law_meeting_right.scope (d__law_meeting_right.dvs K) (d__law_meeting_right.kws K) (d__law_meeting_right.at_ K) fd) : FnOk P w K mg base (L2.CX P w) (5 * d + 5) (d__law_meeting_right.at_ K) fd [] (fun vs H Q E => vs.length = 0 ∧ spR (mkT K P w) (evFn 0 5 (e__law_meeting_right (pgN d))) vs H Q E) :=
  fn_okD (T := mkT K P w) (k := 5 * d + 4) Fd sc__law_meeting_right fun cdv A outer s H E hc lk hcd r => b__law_meeting_right M (pat_N d) ((glo_ok c).bd I.fk I.fn sc__law_meeting_right.nd r) ⟨kds_of hc, r⟩
theorem bd__law_meeting_right {fd : FuncData} (Fd : FunD K d__law_meeting_right.name d__law_meeting_right.qual d__law_meeting_right.params d__law_meeting_right.body d__law_meeting_right.scope (d__law_meeting_right.dvs K) (d__law_meeting_right.kws K) (d__law_meeting_right.at_ K) fd) : Binds K fd [] [] := FunD.bindsN Fd fun _ _ _ _ _ _ us hl => match us, hl with
  | [], _ => rfl
theorem fs__law_meeting_right (c : HD.Says w h K) (M : Mg (mkT K P w) mg) (tb : ∀ p ∈ lamD, LamX.TabB base mg (He.cT K p).1 (He.cT K p).2) (I : At K P w mg base d) : FnS (mkT K P w) P w mg base (5 * (d + 1)) (d__law_meeting_right.at_ K) (evGc (evFn 0 5 (e__law_meeting_right (pgN d)))) := by
  obtain ⟨fd, Fd⟩ := c.dff 90 (d := d__law_meeting_right)
  exact fnS_gc (fn_raw (T := mkT K P w) (ok__law_meeting_right c M tb I Fd) (bd__law_meeting_right Fd))
theorem sc__law_tight_right : FnScope N__law_tight_right [] (defScope s__law_tight_right) := ⟨rfl, rfl, rfl, by decide +kernel, rfl, by decide +kernel, by decide +kernel⟩
theorem ok__law_tight_right (c : HD.Says w h K) (M : Mg (mkT K P w) mg) (tb : ∀ p ∈ lamD, LamX.TabB base mg (He.cT K p).1 (He.cT K p).2) (I : At K P w mg base d) {fd : FuncData} (Fd : FunD K d__law_tight_right.name d__law_tight_right.qual d__law_tight_right.params d__law_tight_right.body d__law_tight_right.scope (d__law_tight_right.dvs K) (d__law_tight_right.kws K) (d__law_tight_right.at_ K) fd) : FnOk P w K mg base (L2.CX P w) (5 * d + 5) (d__law_tight_right.at_ K) fd [] (fun vs H Q E => vs.length = 0 ∧ spR (mkT K P w) (evFn 0 7 (e__law_tight_right (pgN d))) vs H Q E) :=
  fn_okD (T := mkT K P w) (k := 5 * d + 4) Fd sc__law_tight_right fun cdv A outer s H E hc lk hcd r => b__law_tight_right M (pat_N d) ((glo_ok c).bd I.fk I.fn sc__law_tight_right.nd r) ⟨kds_of hc, r⟩
theorem bd__law_tight_right {fd : FuncData} (Fd : FunD K d__law_tight_right.name d__law_tight_right.qual d__law_tight_right.params d__law_tight_right.body d__law_tight_right.scope (d__law_tight_right.dvs K) (d__law_tight_right.kws K) (d__law_tight_right.at_ K) fd) : Binds K fd [] [] := FunD.bindsN Fd fun _ _ _ _ _ _ us hl => match us, hl with
  | [], _ => rfl
theorem fs__law_tight_right (c : HD.Says w h K) (M : Mg (mkT K P w) mg) (tb : ∀ p ∈ lamD, LamX.TabB base mg (He.cT K p).1 (He.cT K p).2) (I : At K P w mg base d) : FnS (mkT K P w) P w mg base (5 * (d + 1)) (d__law_tight_right.at_ K) (evGc (evFn 0 7 (e__law_tight_right (pgN d)))) := by
  obtain ⟨fd, Fd⟩ := c.dff 91 (d := d__law_tight_right)
  exact fnS_gc (fn_raw (T := mkT K P w) (ok__law_tight_right c M tb I Fd) (bd__law_tight_right Fd))
theorem sc_law : FnScope N_law [("_law_script" : Str)] (defScope s_law) := ⟨rfl, rfl, rfl, by decide +kernel, rfl, by decide +kernel, by decide +kernel⟩
theorem ok_law (c : HD.Says w h K) (M : Mg (mkT K P w) mg) (tb : ∀ p ∈ lamD, LamX.TabB base mg (He.cT K p).1 (He.cT K p).2) (I : At K P w mg base d) {fd : FuncData} (Fd : FunD K d_law.name d_law.qual d_law.params d_law.body d_law.scope (d_law.dvs K) (d_law.kws K) (d_law.at_ K) fd) : FnOk P w K mg base (L2.CX P w) (5 * d + 5) (d_law.at_ K) fd [("_law_script" : Str)] (fun vs H Q E => vs.length = 1 ∧ spR (mkT K P w) (evFn 1 1 (e_law (pgN d))) vs H Q E) :=
  fn_okD (T := mkT K P w) (k := 5 * d + 4) Fd sc_law fun cdv A outer s H E hc lk hcd r => b_law M (pat_N d) ((glo_ok c).bd I.fk I.fn sc_law.nd r) ⟨kds_of hc, r⟩
theorem bd_law {fd : FuncData} (Fd : FunD K d_law.name d_law.qual d_law.params d_law.body d_law.scope (d_law.dvs K) (d_law.kws K) (d_law.at_ K) fd) : Binds K fd [("_law_script" : Str)] [] := FunD.bindsN Fd fun _ _ _ _ _ _ us hl => match us, hl with
  | [_], _ => rfl
theorem fs_law (c : HD.Says w h K) (M : Mg (mkT K P w) mg) (tb : ∀ p ∈ lamD, LamX.TabB base mg (He.cT K p).1 (He.cT K p).2) (I : At K P w mg base d) : FnS (mkT K P w) P w mg base (5 * (d + 1)) (d_law.at_ K) (evFn 1 1 (e_law (pgN d))) := by
  obtain ⟨fd, Fd⟩ := c.dff 92 (d := d_law)
  exact fn_raw (T := mkT K P w) (ok_law c M tb I Fd) (bd_law Fd)
theorem fk_0 (c : HD.Says w h K) (M : Mg (mkT K P w) mg) (tb : ∀ p ∈ lamD, LamX.TabB base mg (He.cT K p).1 (He.cT K p).2) (I : At K P w mg base d) : FnK (mkT K P w) P w mg base (5 * (d + 1)) (d_AtMost_shows.at_ K) [] (evFnK 2 3 (e_AtMost_shows (pgN d)) (fun xs ys => xs) 2) := by
  obtain ⟨fd, Fd⟩ := c.dff 38 (d := d_AtMost_shows)
  exact fnK_of (T := mkT K P w) (n := 0) (ok_AtMost_shows c M tb I Fd) (kbn_plain (bd_AtMost_shows Fd)) fun r r' => r
theorem fk_1 (c : HD.Says w h K) (M : Mg (mkT K P w) mg) (tb : ∀ p ∈ lamD, LamX.TabB base mg (He.cT K p).1 (He.cT K p).2) (I : At K P w mg base d) : FnK (mkT K P w) P w mg base (5 * (d + 1)) (d_NoBound_shows.at_ K) [] (evFnK 2 5 (e_NoBound_shows (pgN d)) (fun xs ys => xs) 2) := by
  obtain ⟨fd, Fd⟩ := c.dff 41 (d := d_NoBound_shows)
  exact fnK_of (T := mkT K P w) (n := 0) (ok_NoBound_shows c M tb I Fd) (kbn_plain (bd_NoBound_shows Fd)) fun r r' => r
theorem fk_2 (c : HD.Says w h K) (M : Mg (mkT K P w) mg) (tb : ∀ p ∈ lamD, LamX.TabB base mg (He.cT K p).1 (He.cT K p).2) (I : At K P w mg base d) : FnK (mkT K P w) P w mg base (5 * (d + 1)) (d_Over_shows.at_ K) [] (evFnK 3 4 (e_Over_shows (pgN d)) (fun xs ys => xs) 3) := by
  obtain ⟨fd, Fd⟩ := c.dff 44 (d := d_Over_shows)
  exact fnK_of (T := mkT K P w) (n := 0) (ok_Over_shows c M tb I Fd) (kbn_plain (bd_Over_shows Fd)) fun r r' => r
theorem fk_3 (c : HD.Says w h K) (M : Mg (mkT K P w) mg) (tb : ∀ p ∈ lamD, LamX.TabB base mg (He.cT K p).1 (He.cT K p).2) (I : At K P w mg base d) : FnK (mkT K P w) P w mg base (5 * (d + 1)) (d_Tightened_shows.at_ K) [] (evFnK 4 8 (e_Tightened_shows (pgN d)) (fun xs ys => xs ++ [.non]) 3) := by
  obtain ⟨fd, Fd⟩ := c.dff 66 (d := d_Tightened_shows)
  obtain ⟨mv, hb⟩ := FunD.kbinds0 Fd (ps := [("self" : Str), ("program" : Str), ("offers" : Str), ("limit" : Str)]) 3 [] [("limit", V.non)] (fun us mv ws => us ++ mv) (by simp [DefP.kws]) (by simp [DefP.kws, He.Dv.v]) (fun r1 r3 r4 => (Vals.append r1 r3)) (fun _ _ _ _ _ _ us mv ws h1 h3 h4 => match us, mv, ws, h1, h3, h4 with
    | [_, _, _], [_], [], _, _, _ => ⟨_, _, _, _, _, _, rfl, rfl, rfl⟩)
  exact fnK_of (T := mkT K P w) (n := 0) (ok_Tightened_shows c M tb I Fd) hb fun r r' => (RVs.append r (.cons .non .nil))
theorem fk_4 (c : HD.Says w h K) (M : Mg (mkT K P w) mg) (tb : ∀ p ∈ lamD, LamX.TabB base mg (He.cT K p).1 (He.cT K p).2) (I : At K P w mg base d) : FnK (mkT K P w) P w mg base (5 * (d + 1)) (d_NotTightened_shows.at_ K) [] (evFnK 4 4 (e_NotTightened_shows (pgN d)) (fun xs ys => xs ++ [.non]) 3) := by
  obtain ⟨fd, Fd⟩ := c.dff 69 (d := d_NotTightened_shows)
  obtain ⟨mv, hb⟩ := FunD.kbinds0 Fd (ps := [("self" : Str), ("program" : Str), ("offers" : Str), ("limit" : Str)]) 3 [] [("limit", V.non)] (fun us mv ws => us ++ mv) (by simp [DefP.kws]) (by simp [DefP.kws, He.Dv.v]) (fun r1 r3 r4 => (Vals.append r1 r3)) (fun _ _ _ _ _ _ us mv ws h1 h3 h4 => match us, mv, ws, h1, h3, h4 with
    | [_, _, _], [_], [], _, _, _ => ⟨_, _, _, _, _, _, rfl, rfl, rfl⟩)
  exact fnK_of (T := mkT K P w) (n := 0) (ok_NotTightened_shows c M tb I Fd) hb fun r r' => (RVs.append r (.cons .non .nil))
theorem fk_5 (c : HD.Says w h K) (M : Mg (mkT K P w) mg) (tb : ∀ p ∈ lamD, LamX.TabB base mg (He.cT K p).1 (He.cT K p).2) (I : At K P w mg base d) : FnK (mkT K P w) P w mg base (5 * (d + 1)) (d_tighten.at_ K) [("limit" : Str)] (evFnK 3 8 (e_tighten (pgN d)) (fun xs ys => xs ++ ys) 2) := by
  obtain ⟨fd, Fd⟩ := c.dff 72 (d := d_tighten)
  obtain ⟨mv, hb⟩ := FunD.kbinds0 Fd (ps := [("program" : Str), ("offers" : Str), ("limit" : Str)]) 2 [("limit" : Str)] [] (fun us mv ws => us ++ ws) (by simp [DefP.kws]) (by simp [DefP.kws, He.Dv.v]) (fun r1 r3 r4 => (Vals.append r1 r4)) (fun _ _ _ _ _ _ us mv ws h1 h3 h4 => match us, mv, ws, h1, h3, h4 with
    | [_, _], [], [_], _, _, _ => rfl)
  exact fnK_of (T := mkT K P w) (n := 0) (ok_tighten c M tb I Fd) hb fun r r' => (RVs.append r r')
theorem fk_6 (c : HD.Says w h K) (M : Mg (mkT K P w) mg) (tb : ∀ p ∈ lamD, LamX.TabB base mg (He.cT K p).1 (He.cT K p).2) (I : At K P w mg base d) : FnK (mkT K P w) P w mg base (5 * (d + 1)) (d_Meets_shows.at_ K) [] (evFnK 6 7 (e_Meets_shows (pgN d)) (fun xs ys => xs) 6) := by
  obtain ⟨fd, Fd⟩ := c.dff 76 (d := d_Meets_shows)
  exact fnK_of (T := mkT K P w) (n := 0) (ok_Meets_shows c M tb I Fd) (kbn_plain (bd_Meets_shows Fd)) fun r r' => r
theorem fk_7 (c : HD.Says w h K) (M : Mg (mkT K P w) mg) (tb : ∀ p ∈ lamD, LamX.TabB base mg (He.cT K p).1 (He.cT K p).2) (I : At K P w mg base d) : FnK (mkT K P w) P w mg base (5 * (d + 1)) (d_Apart_shows.at_ K) [] (evFnK 6 10 (e_Apart_shows (pgN d)) (fun xs ys => xs) 6) := by
  obtain ⟨fd, Fd⟩ := c.dff 79 (d := d_Apart_shows)
  exact fnK_of (T := mkT K P w) (n := 0) (ok_Apart_shows c M tb I Fd) (kbn_plain (bd_Apart_shows Fd)) fun r r' => r
theorem fk_8 (c : HD.Says w h K) (M : Mg (mkT K P w) mg) (tb : ∀ p ∈ lamD, LamX.TabB base mg (He.cT K p).1 (He.cT K p).2) (I : At K P w mg base d) : FnK (mkT K P w) P w mg base (5 * (d + 1)) (d_tighten.at_ K) [] (evFnK 3 8 (e_tighten (pgN d)) (fun xs ys => xs ++ [.non]) 2) := by
  obtain ⟨fd, Fd⟩ := c.dff 72 (d := d_tighten)
  obtain ⟨mv, hb⟩ := FunD.kbinds0 Fd (ps := [("program" : Str), ("offers" : Str), ("limit" : Str)]) 2 [] [("limit", V.non)] (fun us mv ws => us ++ mv) (by simp [DefP.kws]) (by simp [DefP.kws, He.Dv.v]) (fun r1 r3 r4 => (Vals.append r1 r3)) (fun _ _ _ _ _ _ us mv ws h1 h3 h4 => match us, mv, ws, h1, h3, h4 with
    | [_, _], [_], [], _, _, _ => ⟨_, _, _, _, _, _, rfl, rfl, rfl⟩)
  exact fnK_of (T := mkT K P w) (n := 0) (ok_tighten c M tb I Fd) hb fun r r' => (RVs.append r (.cons .non .nil))
theorem fk_9 (c : HD.Says w h K) (M : Mg (mkT K P w) mg) (tb : ∀ p ∈ lamD, LamX.TabB base mg (He.cT K p).1 (He.cT K p).2) (I : At K P w mg base d) : FnK (mkT K P w) P w mg base (5 * (d + 1)) (d_least_price.at_ K) [] (evFnK 3 4 (e_least_price (pgN d)) (fun xs ys => xs ++ [.non]) 2) := by
  obtain ⟨fd, Fd⟩ := c.dff 73 (d := d_least_price)
  obtain ⟨mv, hb⟩ := FunD.kbinds0 Fd (ps := [("program" : Str), ("offers" : Str), ("limit" : Str)]) 2 [] [("limit", V.non)] (fun us mv ws => us ++ mv) (by simp [DefP.kws]) (by simp [DefP.kws, He.Dv.v]) (fun r1 r3 r4 => (Vals.append r1 r3)) (fun _ _ _ _ _ _ us mv ws h1 h3 h4 => match us, mv, ws, h1, h3, h4 with
    | [_, _], [_], [], _, _, _ => ⟨_, _, _, _, _, _, rfl, rfl, rfl⟩)
  exact fnK_of (T := mkT K P w) (n := 0) (ok_least_price c M tb I Fd) hb fun r r' => (RVs.append r (.cons .non .nil))
theorem fk_10 (c : HD.Says w h K) (M : Mg (mkT K P w) mg) (tb : ∀ p ∈ lamD, LamX.TabB base mg (He.cT K p).1 (He.cT K p).2) (I : At K P w mg base d) : FnK (mkT K P w) P w mg base (5 * (d + 1)) (d_least_price.at_ K) [("limit" : Str)] (evFnK 3 4 (e_least_price (pgN d)) (fun xs ys => xs ++ ys) 2) := by
  obtain ⟨fd, Fd⟩ := c.dff 73 (d := d_least_price)
  obtain ⟨mv, hb⟩ := FunD.kbinds0 Fd (ps := [("program" : Str), ("offers" : Str), ("limit" : Str)]) 2 [("limit" : Str)] [] (fun us mv ws => us ++ ws) (by simp [DefP.kws]) (by simp [DefP.kws, He.Dv.v]) (fun r1 r3 r4 => (Vals.append r1 r4)) (fun _ _ _ _ _ _ us mv ws h1 h3 h4 => match us, mv, ws, h1, h3, h4 with
    | [_, _], [], [_], _, _, _ => rfl)
  exact fnK_of (T := mkT K P w) (n := 0) (ok_least_price c M tb I Fd) hb fun r r' => (RVs.append r r')
theorem fk_11 (c : HD.Says w h K) (M : Mg (mkT K P w) mg) (tb : ∀ p ∈ lamD, LamX.TabB base mg (He.cT K p).1 (He.cT K p).2) (I : At K P w mg base d) : FnK (mkT K P w) P w mg base (5 * (d + 1)) (d_Tightened_shows.at_ K) [("limit" : Str)] (evFnK 4 8 (e_Tightened_shows (pgN d)) (fun xs ys => xs ++ ys) 3) := by
  obtain ⟨fd, Fd⟩ := c.dff 66 (d := d_Tightened_shows)
  obtain ⟨mv, hb⟩ := FunD.kbinds0 Fd (ps := [("self" : Str), ("program" : Str), ("offers" : Str), ("limit" : Str)]) 3 [("limit" : Str)] [] (fun us mv ws => us ++ ws) (by simp [DefP.kws]) (by simp [DefP.kws, He.Dv.v]) (fun r1 r3 r4 => (Vals.append r1 r4)) (fun _ _ _ _ _ _ us mv ws h1 h3 h4 => match us, mv, ws, h1, h3, h4 with
    | [_, _, _], [], [_], _, _, _ => rfl)
  exact fnK_of (T := mkT K P w) (n := 0) (ok_Tightened_shows c M tb I Fd) hb fun r r' => (RVs.append r r')
theorem fk_12 (c : HD.Says w h K) (M : Mg (mkT K P w) mg) (tb : ∀ p ∈ lamD, LamX.TabB base mg (He.cT K p).1 (He.cT K p).2) (I : At K P w mg base d) : FnK (mkT K P w) P w mg base (5 * (d + 1)) (d_NotTightened_shows.at_ K) [("limit" : Str)] (evFnK 4 4 (e_NotTightened_shows (pgN d)) (fun xs ys => xs ++ ys) 3) := by
  obtain ⟨fd, Fd⟩ := c.dff 69 (d := d_NotTightened_shows)
  obtain ⟨mv, hb⟩ := FunD.kbinds0 Fd (ps := [("self" : Str), ("program" : Str), ("offers" : Str), ("limit" : Str)]) 3 [("limit" : Str)] [] (fun us mv ws => us ++ ws) (by simp [DefP.kws]) (by simp [DefP.kws, He.Dv.v]) (fun r1 r3 r4 => (Vals.append r1 r4)) (fun _ _ _ _ _ _ us mv ws h1 h3 h4 => match us, mv, ws, h1, h3, h4 with
    | [_, _, _], [], [_], _, _, _ => rfl)
  exact fnK_of (T := mkT K P w) (n := 0) (ok_NotTightened_shows c M tb I Fd) hb fun r r' => (RVs.append r r')
theorem at_N (c : HD.Says w h K) (M : Mg (mkT K P w) mg) (tb : ∀ p ∈ lamD, LamX.TabB base mg (He.cT K p).1 (He.cT K p).2) : ∀ d, At K P w mg base d
  | 0 => ⟨fun _ => fnS_none, fun _ => fnK_none⟩
  | d + 1 => by
    have I := at_N c M tb d
    exact ⟨fun f => (cond_fn (cond_fn (cond_fn (cond_fn (cond_fn (cond_fn (fs__wall c M tb I) (fs_BadProgram_init c M tb I)) (cond_fn (fs_BadPath_init c M tb I) (cond_fn (fs_is_integer c M tb I) (fs_fits c M tb I)))) (cond_fn (cond_fn (fs_is_step c M tb I) (cond_fn (fs_Program_init c M tb I) fnS_none)) (cond_fn (fs_Program_width c M tb I) (cond_fn (fs_Program_many c M tb I) (fs_Program_steps c M tb I))))) (cond_fn (cond_fn (cond_fn (fs_Program_eq c M tb I) (cond_fn (fs_Program_len c M tb I) (fs_Program_keeps c M tb I))) (cond_fn (fs_check_program c M tb I) (cond_fn (fs_size_of c M tb I) (fs_is_whole c M tb I)))) (cond_fn (cond_fn (fs_fresh c M tb I) (cond_fn (fs_part c M tb I) (fs_joined c M tb I))) (cond_fn (fs_shelved c M tb I) (cond_fn (fs_made c M tb I) (fs_act c M tb I)))))) (cond_fn (cond_fn (cond_fn (cond_fn (fs_settled c M tb I) (fs_turns c M tb I)) (cond_fn (fs_start_of c M tb I) (cond_fn (fs_after c M tb I) (fs_waste_of c M tb I)))) (cond_fn (cond_fn (fs_is_clear c M tb I) (cond_fn (fs_later_of c M tb I) (fs_followed c M tb I))) (cond_fn (fs_stands c M tb I) (cond_fn (fs_Way_init c M tb I) (fs_Way_end c M tb I))))) (cond_fn (cond_fn (cond_fn (fs_walked c M tb I) (cond_fn (fs_are_heights c M tb I) (fs_AtMost_init c M tb I))) (cond_fn (fs_AtMost_eq c M tb I) (cond_fn (fs_AtMost_shows c M tb I) (fs_NoBound_init c M tb I)))) (cond_fn (cond_fn (fs_NoBound_eq c M tb I) (cond_fn (fs_NoBound_shows c M tb I) (fs_Over_init c M tb I))) (cond_fn (fs_Over_eq c M tb I) (cond_fn (fs_Over_shows c M tb I) (fs_check_limit c M tb I))))))) (cond_fn (cond_fn (cond_fn (cond_fn (cond_fn (fs_explored c M tb I) (fs_road c M tb I)) (cond_fn (fs_path_of c M tb I) (cond_fn (fs_road_round c M tb I) (fs_ring_of c M tb I)))) (cond_fn (cond_fn (fs_raised c M tb I) (cond_fn (fs_top_road c M tb I) (fs_bound_of c M tb I))) (cond_fn (fs_check_any c M tb I) (cond_fn (fs_is_spot c M tb I) (fs_check_offers c M tb I))))) (cond_fn (cond_fn (cond_fn (fs_check_all c M tb I) (cond_fn (fs_price_of c M tb I) (fs_lots_of c M tb I))) (cond_fn (fs_with_lot c M tb I) (cond_fn (fs_answer_to c M tb I) (fs_is_against_lot c M tb I)))) (cond_fn (cond_fn (fs_are_against_lots c M tb I) (cond_fn (fs_Tightened_init c M tb I) (fs_Tightened_eq c M tb I))) (cond_fn fnS_none (cond_fn (fs_NotTightened_init c M tb I) (fs_NotTightened_eq c M tb I)))))) (cond_fn (cond_fn (cond_fn (cond_fn fnS_none (cond_fn (fs_lots c M tb I) (fs_tightened c M tb I))) (cond_fn fnS_none (cond_fn fnS_none (fs_Meets_init c M tb I)))) (cond_fn (cond_fn (fs_Meets_eq c M tb I) (cond_fn (fs_Meets_shows c M tb I) (fs_Apart_init c M tb I))) (cond_fn (fs_Apart_eq c M tb I) (cond_fn (fs_Apart_shows c M tb I) (fs_check_place c M tb I))))) (cond_fn (cond_fn (cond_fn (fs_check_thing c M tb I) (cond_fn (fs_is_register c M tb I) (fs_check_meeting c M tb I))) (cond_fn (fs_does_meet c M tb I) (cond_fn (fs_met c M tb I) (fs_meet c M tb I)))) (cond_fn (cond_fn (fs_can_meet c M tb I) (cond_fn (fs_pairs_that_meet c M tb I) (fs__law_cuts c M tb I))) (cond_fn (fs__law_meeting_right c M tb I) (cond_fn (fs__law_tight_right c M tb I) (fs_law c M tb I)))))))), fun f => (cond_fk (F := faOf K) (cond_fk (F := faOf K) (cond_fk (F := faOf K) (fk_0 c M tb I) (cond_fk (F := faOf K) (fk_1 c M tb I) (fk_2 c M tb I))) (cond_fk (F := faOf K) (fk_3 c M tb I) (cond_fk (F := faOf K) (fk_4 c M tb I) (fk_5 c M tb I)))) (cond_fk (F := faOf K) (cond_fk (F := faOf K) (fk_6 c M tb I) (cond_fk (F := faOf K) (fk_7 c M tb I) (fk_8 c M tb I))) (cond_fk (F := faOf K) (cond_fk (F := faOf K) (fk_9 c M tb I) (fk_10 c M tb I)) (cond_fk (F := faOf K) (fk_11 c M tb I) (fk_12 c M tb I)))))⟩
end
end Gk45
set_option maxHeartbeats 0
namespace Gk45
open PySem PySem.Spec
open PyProof.Rows L2 SV
def k__law_meeting_right_0_s : ISt := [some (.ref 1), some (.tup [.int 0, .int 1, .int 2, .int 3, .int 4]), none, none, none]
def k__law_meeting_right_0_l : List (Nat × IO) := [(1, .ins 9 [(2, .int 4), (3, .int 2), (4, .tup [.tup [.str ⟨#[114, 101, 97, 100]⟩, .str ⟨#[97]⟩, .int 4], .tup [.str ⟨#[99, 117, 116]⟩, .str ⟨#[98]⟩, .str ⟨#[97]⟩, .int 0, .int 2], .tup [.str ⟨#[99, 117, 116]⟩, .str ⟨#[97]⟩, .str ⟨#[97]⟩, .int 2, .int 4], .tup [.str ⟨#[116, 105, 103, 104, 116]⟩, .str ⟨#[98]⟩, .str ⟨#[98]⟩]])])]
theorem ck__law_meeting_right_0 (o : Option IO) : esGc (q__law_meeting_right_0 (pgN 13)) [none, none, none, none, none] (mkH o 1 []) = .nx k__law_meeting_right_0_s (mkH o 7 k__law_meeting_right_0_l) := by kernel_rfl
def k__law_meeting_right_1_s : ISt := [some (.ref 1), some (.tup [.int 0, .int 1, .int 2, .int 3, .int 4]), none, none, none]
def k__law_meeting_right_1_l : List (Nat × IO) := [(1, .ins 9 [(2, .int 4), (3, .int 2), (4, .tup [.tup [.str ⟨#[114, 101, 97, 100]⟩, .str ⟨#[97]⟩, .int 4], .tup [.str ⟨#[99, 117, 116]⟩, .str ⟨#[98]⟩, .str ⟨#[97]⟩, .int 0, .int 2], .tup [.str ⟨#[99, 117, 116]⟩, .str ⟨#[97]⟩, .str ⟨#[97]⟩, .int 2, .int 4], .tup [.str ⟨#[116, 105, 103, 104, 116]⟩, .str ⟨#[98]⟩, .str ⟨#[98]⟩]])])]
theorem ck__law_meeting_right_1 (o : Option IO) : esGc (q__law_meeting_right_1 (pgN 13)) k__law_meeting_right_0_s (mkH o 7 k__law_meeting_right_0_l) = .nx k__law_meeting_right_1_s (mkH o 269 k__law_meeting_right_1_l) := by kernel_rfl
def k__law_meeting_right_2_s : ISt := [some (.ref 1), some (.tup [.int 0, .int 1, .int 2, .int 3, .int 4]), none, none, none]
def k__law_meeting_right_2_l : List (Nat × IO) := [(1, .ins 9 [(2, .int 4), (3, .int 2), (4, .tup [.tup [.str ⟨#[114, 101, 97, 100]⟩, .str ⟨#[97]⟩, .int 4], .tup [.str ⟨#[99, 117, 116]⟩, .str ⟨#[98]⟩, .str ⟨#[97]⟩, .int 0, .int 2], .tup [.str ⟨#[99, 117, 116]⟩, .str ⟨#[97]⟩, .str ⟨#[97]⟩, .int 2, .int 4], .tup [.str ⟨#[116, 105, 103, 104, 116]⟩, .str ⟨#[98]⟩, .str ⟨#[98]⟩]])])]
theorem ck__law_meeting_right_2 (o : Option IO) : esGc (q__law_meeting_right_2 (pgN 13)) k__law_meeting_right_1_s (mkH o 269 k__law_meeting_right_1_l) = .nx k__law_meeting_right_2_s (mkH o 531 k__law_meeting_right_2_l) := by kernel_rfl
def k__law_meeting_right_3_s : ISt := [some (.ref 1), some (.tup [.int 0, .int 1, .int 2, .int 3, .int 4]), none, none, none]
def k__law_meeting_right_3_l : List (Nat × IO) := [(1, .ins 9 [(2, .int 4), (3, .int 2), (4, .tup [.tup [.str ⟨#[114, 101, 97, 100]⟩, .str ⟨#[97]⟩, .int 4], .tup [.str ⟨#[99, 117, 116]⟩, .str ⟨#[98]⟩, .str ⟨#[97]⟩, .int 0, .int 2], .tup [.str ⟨#[99, 117, 116]⟩, .str ⟨#[97]⟩, .str ⟨#[97]⟩, .int 2, .int 4], .tup [.str ⟨#[116, 105, 103, 104, 116]⟩, .str ⟨#[98]⟩, .str ⟨#[98]⟩]])])]
theorem ck__law_meeting_right_3 (o : Option IO) : esGc (q__law_meeting_right_3 (pgN 13)) k__law_meeting_right_2_s (mkH o 531 k__law_meeting_right_2_l) = .nx k__law_meeting_right_3_s (mkH o 633 k__law_meeting_right_3_l) := by kernel_rfl
def k__law_meeting_right_4_s : ISt := [some (.ref 1), some (.tup [.int 0, .int 1, .int 2, .int 3, .int 4]), none, none, none]
def k__law_meeting_right_4_l : List (Nat × IO) := [(1, .ins 9 [(2, .int 4), (3, .int 2), (4, .tup [.tup [.str ⟨#[114, 101, 97, 100]⟩, .str ⟨#[97]⟩, .int 4], .tup [.str ⟨#[99, 117, 116]⟩, .str ⟨#[98]⟩, .str ⟨#[97]⟩, .int 0, .int 2], .tup [.str ⟨#[99, 117, 116]⟩, .str ⟨#[97]⟩, .str ⟨#[97]⟩, .int 2, .int 4], .tup [.str ⟨#[116, 105, 103, 104, 116]⟩, .str ⟨#[98]⟩, .str ⟨#[98]⟩]])])]
theorem ck__law_meeting_right_4 (o : Option IO) : esGc (q__law_meeting_right_4 (pgN 13)) k__law_meeting_right_3_s (mkH o 633 k__law_meeting_right_3_l) = .nx k__law_meeting_right_4_s (mkH o 737 k__law_meeting_right_4_l) := by kernel_rfl
def k__law_meeting_right_5_s : ISt := [some (.ref 1), some (.tup [.int 0, .int 1, .int 2, .int 3, .int 4]), none, none, none]
def k__law_meeting_right_5_l : List (Nat × IO) := [(1, .ins 9 [(2, .int 4), (3, .int 2), (4, .tup [.tup [.str ⟨#[114, 101, 97, 100]⟩, .str ⟨#[97]⟩, .int 4], .tup [.str ⟨#[99, 117, 116]⟩, .str ⟨#[98]⟩, .str ⟨#[97]⟩, .int 0, .int 2], .tup [.str ⟨#[99, 117, 116]⟩, .str ⟨#[97]⟩, .str ⟨#[97]⟩, .int 2, .int 4], .tup [.str ⟨#[116, 105, 103, 104, 116]⟩, .str ⟨#[98]⟩, .str ⟨#[98]⟩]])])]
theorem ck__law_meeting_right_5 (o : Option IO) : esGc (q__law_meeting_right_5 (pgN 13)) k__law_meeting_right_4_s (mkH o 737 k__law_meeting_right_4_l) = .nx k__law_meeting_right_5_s (mkH o 770 k__law_meeting_right_5_l) := by kernel_rfl
def k__law_meeting_right_6_s : ISt := [some (.ref 1), some (.tup [.int 0, .int 1, .int 2, .int 3, .int 4]), none, none, none]
def k__law_meeting_right_6_l : List (Nat × IO) := [(1, .ins 9 [(2, .int 4), (3, .int 2), (4, .tup [.tup [.str ⟨#[114, 101, 97, 100]⟩, .str ⟨#[97]⟩, .int 4], .tup [.str ⟨#[99, 117, 116]⟩, .str ⟨#[98]⟩, .str ⟨#[97]⟩, .int 0, .int 2], .tup [.str ⟨#[99, 117, 116]⟩, .str ⟨#[97]⟩, .str ⟨#[97]⟩, .int 2, .int 4], .tup [.str ⟨#[116, 105, 103, 104, 116]⟩, .str ⟨#[98]⟩, .str ⟨#[98]⟩]])])]
theorem ck__law_meeting_right_6 (o : Option IO) : esGc (q__law_meeting_right_6 (pgN 13)) k__law_meeting_right_5_s (mkH o 770 k__law_meeting_right_5_l) = .nx k__law_meeting_right_6_s (mkH o 803 k__law_meeting_right_6_l) := by kernel_rfl
def k__law_meeting_right_7_s : ISt := [some (.ref 1), some (.tup [.int 0, .int 1, .int 2, .int 3, .int 4]), some (.ref 867), none, none]
def k__law_meeting_right_7_l : List (Nat × IO) := [(867, .lst [.tup [.int 0, .tup [.non, .non], .tup []], .tup [.int 1, .tup [.tup [.int 0, .int 0, .int 4], .non], .tup [.tup [.int 4, .tup []]]], .tup [.int 2, .tup [.tup [.int 0, .int 0, .int 4], .tup [.int 0, .int 0, .int 2]], .tup [.tup [.int 4, .tup []]]], .tup [.int 3, .tup [.tup [.int 0, .int 2, .int 4], .tup [.int 0, .int 0, .int 2]], .tup [.tup [.int 4, .tup []]]], .tup [.int 4, .tup [.tup [.int 0, .int 2, .int 4], .tup [.int 1, .int 0, .int 2]], .tup [.tup [.int 4, .tup []], .tup [.int 2, .tup []]]]]), (1, .ins 9 [(2, .int 4), (3, .int 2), (4, .tup [.tup [.str ⟨#[114, 101, 97, 100]⟩, .str ⟨#[97]⟩, .int 4], .tup [.str ⟨#[99, 117, 116]⟩, .str ⟨#[98]⟩, .str ⟨#[97]⟩, .int 0, .int 2], .tup [.str ⟨#[99, 117, 116]⟩, .str ⟨#[97]⟩, .str ⟨#[97]⟩, .int 2, .int 4], .tup [.str ⟨#[116, 105, 103, 104, 116]⟩, .str ⟨#[98]⟩, .str ⟨#[98]⟩]])])]
theorem ck__law_meeting_right_7 (o : Option IO) : esGc (q__law_meeting_right_7 (pgN 13)) k__law_meeting_right_6_s (mkH o 803 k__law_meeting_right_6_l) = .nx k__law_meeting_right_7_s (mkH o 868 k__law_meeting_right_7_l) := by kernel_rfl
def k__law_meeting_right_8_s : ISt := [some (.ref 1), some (.tup [.int 0, .int 1, .int 2, .int 3, .int 4]), some (.ref 867), none, none]
def k__law_meeting_right_8_l : List (Nat × IO) := [(867, .lst [.tup [.int 0, .tup [.non, .non], .tup []], .tup [.int 1, .tup [.tup [.int 0, .int 0, .int 4], .non], .tup [.tup [.int 4, .tup []]]], .tup [.int 2, .tup [.tup [.int 0, .int 0, .int 4], .tup [.int 0, .int 0, .int 2]], .tup [.tup [.int 4, .tup []]]], .tup [.int 3, .tup [.tup [.int 0, .int 2, .int 4], .tup [.int 0, .int 0, .int 2]], .tup [.tup [.int 4, .tup []]]], .tup [.int 4, .tup [.tup [.int 0, .int 2, .int 4], .tup [.int 1, .int 0, .int 2]], .tup [.tup [.int 4, .tup []], .tup [.int 2, .tup []]]]]), (1, .ins 9 [(2, .int 4), (3, .int 2), (4, .tup [.tup [.str ⟨#[114, 101, 97, 100]⟩, .str ⟨#[97]⟩, .int 4], .tup [.str ⟨#[99, 117, 116]⟩, .str ⟨#[98]⟩, .str ⟨#[97]⟩, .int 0, .int 2], .tup [.str ⟨#[99, 117, 116]⟩, .str ⟨#[97]⟩, .str ⟨#[97]⟩, .int 2, .int 4], .tup [.str ⟨#[116, 105, 103, 104, 116]⟩, .str ⟨#[98]⟩, .str ⟨#[98]⟩]])])]
theorem ck__law_meeting_right_8 (o : Option IO) : esGc (q__law_meeting_right_8 (pgN 13)) k__law_meeting_right_7_s (mkH o 868 k__law_meeting_right_7_l) = .nx k__law_meeting_right_8_s (mkH o 948 k__law_meeting_right_8_l) := by kernel_rfl
def k__law_meeting_right_9_s : ISt := [some (.ref 1), some (.tup [.int 0, .int 1, .int 2, .int 3, .int 4]), some (.ref 867), none, none]
def k__law_meeting_right_9_l : List (Nat × IO) := [(867, .lst [.tup [.int 0, .tup [.non, .non], .tup []], .tup [.int 1, .tup [.tup [.int 0, .int 0, .int 4], .non], .tup [.tup [.int 4, .tup []]]], .tup [.int 2, .tup [.tup [.int 0, .int 0, .int 4], .tup [.int 0, .int 0, .int 2]], .tup [.tup [.int 4, .tup []]]], .tup [.int 3, .tup [.tup [.int 0, .int 2, .int 4], .tup [.int 0, .int 0, .int 2]], .tup [.tup [.int 4, .tup []]]], .tup [.int 4, .tup [.tup [.int 0, .int 2, .int 4], .tup [.int 1, .int 0, .int 2]], .tup [.tup [.int 4, .tup []], .tup [.int 2, .tup []]]]]), (1, .ins 9 [(2, .int 4), (3, .int 2), (4, .tup [.tup [.str ⟨#[114, 101, 97, 100]⟩, .str ⟨#[97]⟩, .int 4], .tup [.str ⟨#[99, 117, 116]⟩, .str ⟨#[98]⟩, .str ⟨#[97]⟩, .int 0, .int 2], .tup [.str ⟨#[99, 117, 116]⟩, .str ⟨#[97]⟩, .str ⟨#[97]⟩, .int 2, .int 4], .tup [.str ⟨#[116, 105, 103, 104, 116]⟩, .str ⟨#[98]⟩, .str ⟨#[98]⟩]])])]
theorem ck__law_meeting_right_9 (o : Option IO) : esGc (q__law_meeting_right_9 (pgN 13)) k__law_meeting_right_8_s (mkH o 948 k__law_meeting_right_8_l) = .nx k__law_meeting_right_9_s (mkH o 1038 k__law_meeting_right_9_l) := by kernel_rfl
def k__law_meeting_right_10_s : ISt := [some (.ref 1), some (.tup [.int 0, .int 1, .int 2, .int 3, .int 4]), some (.ref 867), some (.ref 1038), none]
def k__law_meeting_right_10_l : List (Nat × IO) := [(1038, .ins 9 [(2, .int 4), (3, .int 3), (4, .tup [.tup [.str ⟨#[114, 101, 97, 100]⟩, .str ⟨#[97]⟩, .int 2], .tup [.str ⟨#[109, 111, 118, 101]⟩, .str ⟨#[99]⟩, .str ⟨#[97]⟩], .tup [.str ⟨#[106, 111, 105, 110]⟩, .str ⟨#[98]⟩, .str ⟨#[97]⟩, .str ⟨#[99]⟩], .tup [.str ⟨#[97, 115, 107]⟩, .int 0]])]), (867, .lst [.tup [.int 0, .tup [.non, .non], .tup []], .tup [.int 1, .tup [.tup [.int 0, .int 0, .int 4], .non], .tup [.tup [.int 4, .tup []]]], .tup [.int 2, .tup [.tup [.int 0, .int 0, .int 4], .tup [.int 0, .int 0, .int 2]], .tup [.tup [.int 4, .tup []]]], .tup [.int 3, .tup [.tup [.int 0, .int 2, .int 4], .tup [.int 0, .int 0, .int 2]], .tup [.tup [.int 4, .tup []]]], .tup [.int 4, .tup [.tup [.int 0, .int 2, .int 4], .tup [.int 1, .int 0, .int 2]], .tup [.tup [.int 4, .tup []], .tup [.int 2, .tup []]]]]), (1, .ins 9 [(2, .int 4), (3, .int 2), (4, .tup [.tup [.str ⟨#[114, 101, 97, 100]⟩, .str ⟨#[97]⟩, .int 4], .tup [.str ⟨#[99, 117, 116]⟩, .str ⟨#[98]⟩, .str ⟨#[97]⟩, .int 0, .int 2], .tup [.str ⟨#[99, 117, 116]⟩, .str ⟨#[97]⟩, .str ⟨#[97]⟩, .int 2, .int 4], .tup [.str ⟨#[116, 105, 103, 104, 116]⟩, .str ⟨#[98]⟩, .str ⟨#[98]⟩]])])]
theorem ck__law_meeting_right_10 (o : Option IO) : esGc (q__law_meeting_right_10 (pgN 13)) k__law_meeting_right_9_s (mkH o 1038 k__law_meeting_right_9_l) = .nx k__law_meeting_right_10_s (mkH o 1044 k__law_meeting_right_10_l) := by kernel_rfl
def k__law_meeting_right_11_s : ISt := [some (.ref 1), some (.tup [.int 0, .int 1, .int 2, .int 3, .int 4]), some (.ref 867), some (.ref 1038), none]
def k__law_meeting_right_11_l : List (Nat × IO) := [(1038, .ins 9 [(2, .int 4), (3, .int 3), (4, .tup [.tup [.str ⟨#[114, 101, 97, 100]⟩, .str ⟨#[97]⟩, .int 2], .tup [.str ⟨#[109, 111, 118, 101]⟩, .str ⟨#[99]⟩, .str ⟨#[97]⟩], .tup [.str ⟨#[106, 111, 105, 110]⟩, .str ⟨#[98]⟩, .str ⟨#[97]⟩, .str ⟨#[99]⟩], .tup [.str ⟨#[97, 115, 107]⟩, .int 0]])]), (867, .lst [.tup [.int 0, .tup [.non, .non], .tup []], .tup [.int 1, .tup [.tup [.int 0, .int 0, .int 4], .non], .tup [.tup [.int 4, .tup []]]], .tup [.int 2, .tup [.tup [.int 0, .int 0, .int 4], .tup [.int 0, .int 0, .int 2]], .tup [.tup [.int 4, .tup []]]], .tup [.int 3, .tup [.tup [.int 0, .int 2, .int 4], .tup [.int 0, .int 0, .int 2]], .tup [.tup [.int 4, .tup []]]], .tup [.int 4, .tup [.tup [.int 0, .int 2, .int 4], .tup [.int 1, .int 0, .int 2]], .tup [.tup [.int 4, .tup []], .tup [.int 2, .tup []]]]]), (1, .ins 9 [(2, .int 4), (3, .int 2), (4, .tup [.tup [.str ⟨#[114, 101, 97, 100]⟩, .str ⟨#[97]⟩, .int 4], .tup [.str ⟨#[99, 117, 116]⟩, .str ⟨#[98]⟩, .str ⟨#[97]⟩, .int 0, .int 2], .tup [.str ⟨#[99, 117, 116]⟩, .str ⟨#[97]⟩, .str ⟨#[97]⟩, .int 2, .int 4], .tup [.str ⟨#[116, 105, 103, 104, 116]⟩, .str ⟨#[98]⟩, .str ⟨#[98]⟩]])])]
theorem ck__law_meeting_right_11 (o : Option IO) : esGc (q__law_meeting_right_11 (pgN 13)) k__law_meeting_right_10_s (mkH o 1044 k__law_meeting_right_10_l) = .nx k__law_meeting_right_11_s (mkH o 1250 k__law_meeting_right_11_l) := by kernel_rfl
theorem cu__law_meeting_right : (pgN 14).cl 90 = evGc (evFn 0 5 (e__law_meeting_right (pgN 13))) := by kernel_rfl
theorem ce__law_meeting_right (o : Option IO) : e__law_meeting_right (pgN 13) (List.replicate 5 none) (mkH o 1 []) = esGc (q__law_meeting_right_12 (pgN 13)) k__law_meeting_right_11_s (mkH o 1250 k__law_meeting_right_11_l) := (seq_nx (ck__law_meeting_right_0 o)).trans ((seq_nx (ck__law_meeting_right_1 o)).trans ((seq_nx (ck__law_meeting_right_2 o)).trans ((seq_nx (ck__law_meeting_right_3 o)).trans ((seq_nx (ck__law_meeting_right_4 o)).trans ((seq_nx (ck__law_meeting_right_5 o)).trans ((seq_nx (ck__law_meeting_right_6 o)).trans ((seq_nx (ck__law_meeting_right_7 o)).trans ((seq_nx (ck__law_meeting_right_8 o)).trans ((seq_nx (ck__law_meeting_right_9 o)).trans ((seq_nx (ck__law_meeting_right_10 o)).trans (seq_nx (ck__law_meeting_right_11 o))))))))))))
theorem cl__law_meeting_right (o : Option IO) : gcQ (endF (esGc (q__law_meeting_right_12 (pgN 13)) k__law_meeting_right_11_s (mkH o 1250 k__law_meeting_right_11_l))) [] = .ok (.bl true) (mkH o 1439 []) := by kernel_rfl
theorem cf__law_meeting_right (o : Option IO) : (pgN 14).cl 90 [] (mkH o 1 []) = .ok (.bl true) (mkH o 1439 []) := (gc_call (cu__law_meeting_right) (ce__law_meeting_right o)).trans (cl__law_meeting_right o)
def k__law_tight_right_0_s : ISt := [some (.tup [.tup [.str ⟨#[114, 101, 97, 100]⟩, .str ⟨#[97]⟩, .int 4], .tup [.str ⟨#[99, 117, 116]⟩, .str ⟨#[97]⟩, .str ⟨#[97]⟩, .int 0, .int 1], .tup [.str ⟨#[109, 111, 118, 101]⟩, .str ⟨#[98]⟩, .str ⟨#[97]⟩], .tup [.str ⟨#[107, 101, 101, 112]⟩, .str ⟨#[98]⟩], .tup [.str ⟨#[97, 115, 107]⟩, .int 0]]), none, none, none, none, none, none]
def k__law_tight_right_0_l : List (Nat × IO) := []
theorem ck__law_tight_right_0 (o : Option IO) : esGc (q__law_tight_right_0 (pgN 13)) [none, none, none, none, none, none, none] (mkH o 1439 []) = .nx k__law_tight_right_0_s (mkH o 1439 k__law_tight_right_0_l) := by kernel_rfl
def k__law_tight_right_1_s : ISt := [some (.tup [.tup [.str ⟨#[114, 101, 97, 100]⟩, .str ⟨#[97]⟩, .int 4], .tup [.str ⟨#[99, 117, 116]⟩, .str ⟨#[97]⟩, .str ⟨#[97]⟩, .int 0, .int 1], .tup [.str ⟨#[109, 111, 118, 101]⟩, .str ⟨#[98]⟩, .str ⟨#[97]⟩], .tup [.str ⟨#[107, 101, 101, 112]⟩, .str ⟨#[98]⟩], .tup [.str ⟨#[97, 115, 107]⟩, .int 0]]), some (.ref 1439), some (.ref 1446), none, none, none, none]
def k__law_tight_right_1_l : List (Nat × IO) := [(1446, .dct false [(.int 2, .int 1), (.int 3, .int 5)]), (1439, .ins 9 [(2, .int 4), (3, .int 2), (4, .tup [.tup [.str ⟨#[114, 101, 97, 100]⟩, .str ⟨#[97]⟩, .int 4], .tup [.str ⟨#[99, 117, 116]⟩, .str ⟨#[97]⟩, .str ⟨#[97]⟩, .int 0, .int 1], .tup [.str ⟨#[109, 111, 118, 101]⟩, .str ⟨#[98]⟩, .str ⟨#[97]⟩], .tup [.str ⟨#[107, 101, 101, 112]⟩, .str ⟨#[98]⟩], .tup [.str ⟨#[97, 115, 107]⟩, .int 0]])])]
theorem ck__law_tight_right_1 (o : Option IO) : esGc (q__law_tight_right_1 (pgN 13)) k__law_tight_right_0_s (mkH o 1439 k__law_tight_right_0_l) = .nx k__law_tight_right_1_s (mkH o 1447 k__law_tight_right_1_l) := by kernel_rfl
def k__law_tight_right_2_s : ISt := [some (.tup [.tup [.str ⟨#[114, 101, 97, 100]⟩, .str ⟨#[97]⟩, .int 4], .tup [.str ⟨#[99, 117, 116]⟩, .str ⟨#[97]⟩, .str ⟨#[97]⟩, .int 0, .int 1], .tup [.str ⟨#[109, 111, 118, 101]⟩, .str ⟨#[98]⟩, .str ⟨#[97]⟩], .tup [.str ⟨#[107, 101, 101, 112]⟩, .str ⟨#[98]⟩], .tup [.str ⟨#[97, 115, 107]⟩, .int 0]]), some (.ref 1439), some (.ref 1446), none, none, none, none]
def k__law_tight_right_2_l : List (Nat × IO) := [(1446, .dct false [(.int 2, .int 1), (.int 3, .int 5)]), (1439, .ins 9 [(2, .int 4), (3, .int 2), (4, .tup [.tup [.str ⟨#[114, 101, 97, 100]⟩, .str ⟨#[97]⟩, .int 4], .tup [.str ⟨#[99, 117, 116]⟩, .str ⟨#[97]⟩, .str ⟨#[97]⟩, .int 0, .int 1], .tup [.str ⟨#[109, 111, 118, 101]⟩, .str ⟨#[98]⟩, .str ⟨#[97]⟩], .tup [.str ⟨#[107, 101, 101, 112]⟩, .str ⟨#[98]⟩], .tup [.str ⟨#[97, 115, 107]⟩, .int 0]])])]
theorem ck__law_tight_right_2 (o : Option IO) : esGc (q__law_tight_right_2 (pgN 13)) k__law_tight_right_1_s (mkH o 1447 k__law_tight_right_1_l) = .nx k__law_tight_right_2_s (mkH o 1472 k__law_tight_right_2_l) := by kernel_rfl
def k__law_tight_right_3_s : ISt := [some (.tup [.tup [.str ⟨#[114, 101, 97, 100]⟩, .str ⟨#[97]⟩, .int 4], .tup [.str ⟨#[99, 117, 116]⟩, .str ⟨#[97]⟩, .str ⟨#[97]⟩, .int 0, .int 1], .tup [.str ⟨#[109, 111, 118, 101]⟩, .str ⟨#[98]⟩, .str ⟨#[97]⟩], .tup [.str ⟨#[107, 101, 101, 112]⟩, .str ⟨#[98]⟩], .tup [.str ⟨#[97, 115, 107]⟩, .int 0]]), some (.ref 1439), some (.ref 1446), none, none, none, none]
def k__law_tight_right_3_l : List (Nat × IO) := [(1446, .dct false [(.int 2, .int 1), (.int 3, .int 5)]), (1439, .ins 9 [(2, .int 4), (3, .int 2), (4, .tup [.tup [.str ⟨#[114, 101, 97, 100]⟩, .str ⟨#[97]⟩, .int 4], .tup [.str ⟨#[99, 117, 116]⟩, .str ⟨#[97]⟩, .str ⟨#[97]⟩, .int 0, .int 1], .tup [.str ⟨#[109, 111, 118, 101]⟩, .str ⟨#[98]⟩, .str ⟨#[97]⟩], .tup [.str ⟨#[107, 101, 101, 112]⟩, .str ⟨#[98]⟩], .tup [.str ⟨#[97, 115, 107]⟩, .int 0]])])]
theorem ck__law_tight_right_3 (o : Option IO) : esGc (q__law_tight_right_3 (pgN 13)) k__law_tight_right_2_s (mkH o 1472 k__law_tight_right_2_l) = .nx k__law_tight_right_3_s (mkH o 1492 k__law_tight_right_3_l) := by kernel_rfl
def k__law_tight_right_4_s : ISt := [some (.tup [.tup [.str ⟨#[114, 101, 97, 100]⟩, .str ⟨#[97]⟩, .int 4], .tup [.str ⟨#[99, 117, 116]⟩, .str ⟨#[97]⟩, .str ⟨#[97]⟩, .int 0, .int 1], .tup [.str ⟨#[109, 111, 118, 101]⟩, .str ⟨#[98]⟩, .str ⟨#[97]⟩], .tup [.str ⟨#[107, 101, 101, 112]⟩, .str ⟨#[98]⟩], .tup [.str ⟨#[97, 115, 107]⟩, .int 0]]), some (.ref 1439), some (.ref 1446), some (.ref 1801), none, none, none]
def k__law_tight_right_4_l : List (Nat × IO) := [(1607, .ins 13 [(8, .tup [.int 0, .int 1, .int 2, .int 3, .int 4, .int 0, .int 1, .int 2]), (11, .tup [.int 3, .int 4, .int 0, .int 1, .int 2])]), (1802, .dct true [(.tup [], .ref 1607)]), (1797, .dct true [(.tup [.int 0, .tup [.non, .non], .tup []], .int 0), (.tup [.int 1, .tup [.tup [.int 0, .int 0, .int 4], .non], .tup [.tup [.int 4, .tup []]]], .int 0), (.tup [.int 2, .tup [.tup [.int 0, .int 0, .int 1], .non], .tup [.tup [.int 4, .tup []]]], .int 0), (.tup [.int 3, .tup [.tup [.int 0, .int 0, .int 1], .tup [.int 1, .int 0, .int 1]], .tup [.tup [.int 4, .tup []], .tup [.int 1, .tup []]]], .int 0), (.tup [.int 4, .tup [.tup [.int 0, .int 0, .int 1], .tup [.int 1, .int 0, .int 1]], .tup [.tup [.int 4, .tup []], .tup [.int 1, .tup [.int 0]]]], .int 0), (.tup [.int 0, .tup [.tup [.int 0, .int 0, .int 1], .tup [.int 1, .int 0, .int 1]], .tup [.tup [.int 4, .tup []], .tup [.int 1, .tup [.int 0]]]], .int 0), (.tup [.int 5, .tup [.tup [.int 0, .int 0, .int 1], .tup [.int 1, .int 0, .int 1]], .tup [.tup [.int 4, .tup []], .tup [.int 1, .tup [.int 0]]]], .int 0), (.tup [.int 1, .tup [.tup [.int 0, .int 0, .int 4], .tup [.int 1, .int 0, .int 1]], .tup [.tup [.int 4, .tup []], .tup [.int 1, .tup [.int 0]]]], .int 0), (.tup [.int 2, .tup [.tup [.int 0, .int 0, .int 1], .tup [.int 1, .int 0, .int 1]], .tup [.tup [.int 4, .tup []], .tup [.int 1, .tup [.int 0]]]], .int 0)]), (1796, .ins 12 [(8, .tup [.int 0, .int 1, .int 2]), (9, .int 3), (10, .ref 1797)]), (1801, .ins 15 [(13, .tup [.int 2]), (14, .ref 1796), (15, .ref 1802)]), (1446, .dct false [(.int 2, .int 1), (.int 3, .int 5)]), (1439, .ins 9 [(2, .int 4), (3, .int 2), (4, .tup [.tup [.str ⟨#[114, 101, 97, 100]⟩, .str ⟨#[97]⟩, .int 4], .tup [.str ⟨#[99, 117, 116]⟩, .str ⟨#[97]⟩, .str ⟨#[97]⟩, .int 0, .int 1], .tup [.str ⟨#[109, 111, 118, 101]⟩, .str ⟨#[98]⟩, .str ⟨#[97]⟩], .tup [.str ⟨#[107, 101, 101, 112]⟩, .str ⟨#[98]⟩], .tup [.str ⟨#[97, 115, 107]⟩, .int 0]])])]
theorem ck__law_tight_right_4 (o : Option IO) : esGc (q__law_tight_right_4 (pgN 13)) k__law_tight_right_3_s (mkH o 1492 k__law_tight_right_3_l) = .nx k__law_tight_right_4_s (mkH o 1803 k__law_tight_right_4_l) := by kernel_rfl
def k__law_tight_right_5_s : ISt := [some (.tup [.tup [.str ⟨#[114, 101, 97, 100]⟩, .str ⟨#[97]⟩, .int 4], .tup [.str ⟨#[99, 117, 116]⟩, .str ⟨#[97]⟩, .str ⟨#[97]⟩, .int 0, .int 1], .tup [.str ⟨#[109, 111, 118, 101]⟩, .str ⟨#[98]⟩, .str ⟨#[97]⟩], .tup [.str ⟨#[107, 101, 101, 112]⟩, .str ⟨#[98]⟩], .tup [.str ⟨#[97, 115, 107]⟩, .int 0]]), some (.ref 1439), some (.ref 1446), some (.ref 1801), none, none, none]
def k__law_tight_right_5_l : List (Nat × IO) := [(1607, .ins 13 [(8, .tup [.int 0, .int 1, .int 2, .int 3, .int 4, .int 0, .int 1, .int 2]), (11, .tup [.int 3, .int 4, .int 0, .int 1, .int 2])]), (1802, .dct true [(.tup [], .ref 1607)]), (1797, .dct true [(.tup [.int 0, .tup [.non, .non], .tup []], .int 0), (.tup [.int 1, .tup [.tup [.int 0, .int 0, .int 4], .non], .tup [.tup [.int 4, .tup []]]], .int 0), (.tup [.int 2, .tup [.tup [.int 0, .int 0, .int 1], .non], .tup [.tup [.int 4, .tup []]]], .int 0), (.tup [.int 3, .tup [.tup [.int 0, .int 0, .int 1], .tup [.int 1, .int 0, .int 1]], .tup [.tup [.int 4, .tup []], .tup [.int 1, .tup []]]], .int 0), (.tup [.int 4, .tup [.tup [.int 0, .int 0, .int 1], .tup [.int 1, .int 0, .int 1]], .tup [.tup [.int 4, .tup []], .tup [.int 1, .tup [.int 0]]]], .int 0), (.tup [.int 0, .tup [.tup [.int 0, .int 0, .int 1], .tup [.int 1, .int 0, .int 1]], .tup [.tup [.int 4, .tup []], .tup [.int 1, .tup [.int 0]]]], .int 0), (.tup [.int 5, .tup [.tup [.int 0, .int 0, .int 1], .tup [.int 1, .int 0, .int 1]], .tup [.tup [.int 4, .tup []], .tup [.int 1, .tup [.int 0]]]], .int 0), (.tup [.int 1, .tup [.tup [.int 0, .int 0, .int 4], .tup [.int 1, .int 0, .int 1]], .tup [.tup [.int 4, .tup []], .tup [.int 1, .tup [.int 0]]]], .int 0), (.tup [.int 2, .tup [.tup [.int 0, .int 0, .int 1], .tup [.int 1, .int 0, .int 1]], .tup [.tup [.int 4, .tup []], .tup [.int 1, .tup [.int 0]]]], .int 0)]), (1796, .ins 12 [(8, .tup [.int 0, .int 1, .int 2]), (9, .int 3), (10, .ref 1797)]), (1801, .ins 15 [(13, .tup [.int 2]), (14, .ref 1796), (15, .ref 1802)]), (1446, .dct false [(.int 2, .int 1), (.int 3, .int 5)]), (1439, .ins 9 [(2, .int 4), (3, .int 2), (4, .tup [.tup [.str ⟨#[114, 101, 97, 100]⟩, .str ⟨#[97]⟩, .int 4], .tup [.str ⟨#[99, 117, 116]⟩, .str ⟨#[97]⟩, .str ⟨#[97]⟩, .int 0, .int 1], .tup [.str ⟨#[109, 111, 118, 101]⟩, .str ⟨#[98]⟩, .str ⟨#[97]⟩], .tup [.str ⟨#[107, 101, 101, 112]⟩, .str ⟨#[98]⟩], .tup [.str ⟨#[97, 115, 107]⟩, .int 0]])])]
theorem ck__law_tight_right_5 (o : Option IO) : esGc (q__law_tight_right_5 (pgN 13)) k__law_tight_right_4_s (mkH o 1803 k__law_tight_right_4_l) = .nx k__law_tight_right_5_s (mkH o 1805 k__law_tight_right_5_l) := by kernel_rfl
def k__law_tight_right_6_s : ISt := [some (.tup [.tup [.str ⟨#[114, 101, 97, 100]⟩, .str ⟨#[97]⟩, .int 4], .tup [.str ⟨#[99, 117, 116]⟩, .str ⟨#[97]⟩, .str ⟨#[97]⟩, .int 0, .int 1], .tup [.str ⟨#[109, 111, 118, 101]⟩, .str ⟨#[98]⟩, .str ⟨#[97]⟩], .tup [.str ⟨#[107, 101, 101, 112]⟩, .str ⟨#[98]⟩], .tup [.str ⟨#[97, 115, 107]⟩, .int 0]]), some (.ref 1439), some (.ref 1446), some (.ref 1801), none, none, none]
def k__law_tight_right_6_l : List (Nat × IO) := [(1607, .ins 13 [(8, .tup [.int 0, .int 1, .int 2, .int 3, .int 4, .int 0, .int 1, .int 2]), (11, .tup [.int 3, .int 4, .int 0, .int 1, .int 2])]), (1802, .dct true [(.tup [], .ref 1607)]), (1797, .dct true [(.tup [.int 0, .tup [.non, .non], .tup []], .int 0), (.tup [.int 1, .tup [.tup [.int 0, .int 0, .int 4], .non], .tup [.tup [.int 4, .tup []]]], .int 0), (.tup [.int 2, .tup [.tup [.int 0, .int 0, .int 1], .non], .tup [.tup [.int 4, .tup []]]], .int 0), (.tup [.int 3, .tup [.tup [.int 0, .int 0, .int 1], .tup [.int 1, .int 0, .int 1]], .tup [.tup [.int 4, .tup []], .tup [.int 1, .tup []]]], .int 0), (.tup [.int 4, .tup [.tup [.int 0, .int 0, .int 1], .tup [.int 1, .int 0, .int 1]], .tup [.tup [.int 4, .tup []], .tup [.int 1, .tup [.int 0]]]], .int 0), (.tup [.int 0, .tup [.tup [.int 0, .int 0, .int 1], .tup [.int 1, .int 0, .int 1]], .tup [.tup [.int 4, .tup []], .tup [.int 1, .tup [.int 0]]]], .int 0), (.tup [.int 5, .tup [.tup [.int 0, .int 0, .int 1], .tup [.int 1, .int 0, .int 1]], .tup [.tup [.int 4, .tup []], .tup [.int 1, .tup [.int 0]]]], .int 0), (.tup [.int 1, .tup [.tup [.int 0, .int 0, .int 4], .tup [.int 1, .int 0, .int 1]], .tup [.tup [.int 4, .tup []], .tup [.int 1, .tup [.int 0]]]], .int 0), (.tup [.int 2, .tup [.tup [.int 0, .int 0, .int 1], .tup [.int 1, .int 0, .int 1]], .tup [.tup [.int 4, .tup []], .tup [.int 1, .tup [.int 0]]]], .int 0)]), (1796, .ins 12 [(8, .tup [.int 0, .int 1, .int 2]), (9, .int 3), (10, .ref 1797)]), (1801, .ins 15 [(13, .tup [.int 2]), (14, .ref 1796), (15, .ref 1802)]), (1446, .dct false [(.int 2, .int 1), (.int 3, .int 5)]), (1439, .ins 9 [(2, .int 4), (3, .int 2), (4, .tup [.tup [.str ⟨#[114, 101, 97, 100]⟩, .str ⟨#[97]⟩, .int 4], .tup [.str ⟨#[99, 117, 116]⟩, .str ⟨#[97]⟩, .str ⟨#[97]⟩, .int 0, .int 1], .tup [.str ⟨#[109, 111, 118, 101]⟩, .str ⟨#[98]⟩, .str ⟨#[97]⟩], .tup [.str ⟨#[107, 101, 101, 112]⟩, .str ⟨#[98]⟩], .tup [.str ⟨#[97, 115, 107]⟩, .int 0]])])]
theorem ck__law_tight_right_6 (o : Option IO) : esGc (q__law_tight_right_6 (pgN 13)) k__law_tight_right_5_s (mkH o 1805 k__law_tight_right_5_l) = .nx k__law_tight_right_6_s (mkH o 2748 k__law_tight_right_6_l) := by kernel_rfl
def k__law_tight_right_7_s : ISt := [some (.tup [.tup [.str ⟨#[114, 101, 97, 100]⟩, .str ⟨#[97]⟩, .int 4], .tup [.str ⟨#[99, 117, 116]⟩, .str ⟨#[97]⟩, .str ⟨#[97]⟩, .int 0, .int 1], .tup [.str ⟨#[109, 111, 118, 101]⟩, .str ⟨#[98]⟩, .str ⟨#[97]⟩], .tup [.str ⟨#[107, 101, 101, 112]⟩, .str ⟨#[98]⟩], .tup [.str ⟨#[97, 115, 107]⟩, .int 0]]), some (.ref 1439), some (.ref 1446), some (.ref 1801), none, none, none]
def k__law_tight_right_7_l : List (Nat × IO) := [(1607, .ins 13 [(8, .tup [.int 0, .int 1, .int 2, .int 3, .int 4, .int 0, .int 1, .int 2]), (11, .tup [.int 3, .int 4, .int 0, .int 1, .int 2])]), (1802, .dct true [(.tup [], .ref 1607)]), (1797, .dct true [(.tup [.int 0, .tup [.non, .non], .tup []], .int 0), (.tup [.int 1, .tup [.tup [.int 0, .int 0, .int 4], .non], .tup [.tup [.int 4, .tup []]]], .int 0), (.tup [.int 2, .tup [.tup [.int 0, .int 0, .int 1], .non], .tup [.tup [.int 4, .tup []]]], .int 0), (.tup [.int 3, .tup [.tup [.int 0, .int 0, .int 1], .tup [.int 1, .int 0, .int 1]], .tup [.tup [.int 4, .tup []], .tup [.int 1, .tup []]]], .int 0), (.tup [.int 4, .tup [.tup [.int 0, .int 0, .int 1], .tup [.int 1, .int 0, .int 1]], .tup [.tup [.int 4, .tup []], .tup [.int 1, .tup [.int 0]]]], .int 0), (.tup [.int 0, .tup [.tup [.int 0, .int 0, .int 1], .tup [.int 1, .int 0, .int 1]], .tup [.tup [.int 4, .tup []], .tup [.int 1, .tup [.int 0]]]], .int 0), (.tup [.int 5, .tup [.tup [.int 0, .int 0, .int 1], .tup [.int 1, .int 0, .int 1]], .tup [.tup [.int 4, .tup []], .tup [.int 1, .tup [.int 0]]]], .int 0), (.tup [.int 1, .tup [.tup [.int 0, .int 0, .int 4], .tup [.int 1, .int 0, .int 1]], .tup [.tup [.int 4, .tup []], .tup [.int 1, .tup [.int 0]]]], .int 0), (.tup [.int 2, .tup [.tup [.int 0, .int 0, .int 1], .tup [.int 1, .int 0, .int 1]], .tup [.tup [.int 4, .tup []], .tup [.int 1, .tup [.int 0]]]], .int 0)]), (1796, .ins 12 [(8, .tup [.int 0, .int 1, .int 2]), (9, .int 3), (10, .ref 1797)]), (1801, .ins 15 [(13, .tup [.int 2]), (14, .ref 1796), (15, .ref 1802)]), (1446, .dct false [(.int 2, .int 1), (.int 3, .int 5)]), (1439, .ins 9 [(2, .int 4), (3, .int 2), (4, .tup [.tup [.str ⟨#[114, 101, 97, 100]⟩, .str ⟨#[97]⟩, .int 4], .tup [.str ⟨#[99, 117, 116]⟩, .str ⟨#[97]⟩, .str ⟨#[97]⟩, .int 0, .int 1], .tup [.str ⟨#[109, 111, 118, 101]⟩, .str ⟨#[98]⟩, .str ⟨#[97]⟩], .tup [.str ⟨#[107, 101, 101, 112]⟩, .str ⟨#[98]⟩], .tup [.str ⟨#[97, 115, 107]⟩, .int 0]])])]
theorem ck__law_tight_right_7 (o : Option IO) : esGc (q__law_tight_right_7 (pgN 13)) k__law_tight_right_6_s (mkH o 2748 k__law_tight_right_6_l) = .nx k__law_tight_right_7_s (mkH o 4770 k__law_tight_right_7_l) := by kernel_rfl
def k__law_tight_right_8_s : ISt := [some (.tup [.tup [.str ⟨#[114, 101, 97, 100]⟩, .str ⟨#[97]⟩, .int 4], .tup [.str ⟨#[99, 117, 116]⟩, .str ⟨#[97]⟩, .str ⟨#[97]⟩, .int 0, .int 1], .tup [.str ⟨#[109, 111, 118, 101]⟩, .str ⟨#[98]⟩, .str ⟨#[97]⟩], .tup [.str ⟨#[107, 101, 101, 112]⟩, .str ⟨#[98]⟩], .tup [.str ⟨#[97, 115, 107]⟩, .int 0]]), some (.ref 1439), some (.ref 1446), some (.ref 1801), none, none, none]
def k__law_tight_right_8_l : List (Nat × IO) := [(1607, .ins 13 [(8, .tup [.int 0, .int 1, .int 2, .int 3, .int 4, .int 0, .int 1, .int 2]), (11, .tup [.int 3, .int 4, .int 0, .int 1, .int 2])]), (1802, .dct true [(.tup [], .ref 1607)]), (1797, .dct true [(.tup [.int 0, .tup [.non, .non], .tup []], .int 0), (.tup [.int 1, .tup [.tup [.int 0, .int 0, .int 4], .non], .tup [.tup [.int 4, .tup []]]], .int 0), (.tup [.int 2, .tup [.tup [.int 0, .int 0, .int 1], .non], .tup [.tup [.int 4, .tup []]]], .int 0), (.tup [.int 3, .tup [.tup [.int 0, .int 0, .int 1], .tup [.int 1, .int 0, .int 1]], .tup [.tup [.int 4, .tup []], .tup [.int 1, .tup []]]], .int 0), (.tup [.int 4, .tup [.tup [.int 0, .int 0, .int 1], .tup [.int 1, .int 0, .int 1]], .tup [.tup [.int 4, .tup []], .tup [.int 1, .tup [.int 0]]]], .int 0), (.tup [.int 0, .tup [.tup [.int 0, .int 0, .int 1], .tup [.int 1, .int 0, .int 1]], .tup [.tup [.int 4, .tup []], .tup [.int 1, .tup [.int 0]]]], .int 0), (.tup [.int 5, .tup [.tup [.int 0, .int 0, .int 1], .tup [.int 1, .int 0, .int 1]], .tup [.tup [.int 4, .tup []], .tup [.int 1, .tup [.int 0]]]], .int 0), (.tup [.int 1, .tup [.tup [.int 0, .int 0, .int 4], .tup [.int 1, .int 0, .int 1]], .tup [.tup [.int 4, .tup []], .tup [.int 1, .tup [.int 0]]]], .int 0), (.tup [.int 2, .tup [.tup [.int 0, .int 0, .int 1], .tup [.int 1, .int 0, .int 1]], .tup [.tup [.int 4, .tup []], .tup [.int 1, .tup [.int 0]]]], .int 0)]), (1796, .ins 12 [(8, .tup [.int 0, .int 1, .int 2]), (9, .int 3), (10, .ref 1797)]), (1801, .ins 15 [(13, .tup [.int 2]), (14, .ref 1796), (15, .ref 1802)]), (1446, .dct false [(.int 2, .int 1), (.int 3, .int 5)]), (1439, .ins 9 [(2, .int 4), (3, .int 2), (4, .tup [.tup [.str ⟨#[114, 101, 97, 100]⟩, .str ⟨#[97]⟩, .int 4], .tup [.str ⟨#[99, 117, 116]⟩, .str ⟨#[97]⟩, .str ⟨#[97]⟩, .int 0, .int 1], .tup [.str ⟨#[109, 111, 118, 101]⟩, .str ⟨#[98]⟩, .str ⟨#[97]⟩], .tup [.str ⟨#[107, 101, 101, 112]⟩, .str ⟨#[98]⟩], .tup [.str ⟨#[97, 115, 107]⟩, .int 0]])])]
theorem ck__law_tight_right_8 (o : Option IO) : esGc (q__law_tight_right_8 (pgN 13)) k__law_tight_right_7_s (mkH o 4770 k__law_tight_right_7_l) = .nx k__law_tight_right_8_s (mkH o 5444 k__law_tight_right_8_l) := by kernel_rfl
def k__law_tight_right_9_s : ISt := [some (.tup [.tup [.str ⟨#[114, 101, 97, 100]⟩, .str ⟨#[97]⟩, .int 4], .tup [.str ⟨#[99, 117, 116]⟩, .str ⟨#[97]⟩, .str ⟨#[97]⟩, .int 0, .int 1], .tup [.str ⟨#[109, 111, 118, 101]⟩, .str ⟨#[98]⟩, .str ⟨#[97]⟩], .tup [.str ⟨#[107, 101, 101, 112]⟩, .str ⟨#[98]⟩], .tup [.str ⟨#[97, 115, 107]⟩, .int 0]]), some (.ref 1439), some (.ref 1446), some (.ref 1801), some (.ref 6140), none, none]
def k__law_tight_right_9_l : List (Nat × IO) := [(6139, .ins 14 [(8, .tup [.int 0, .int 1, .int 2])]), (5948, .ins 14 [(8, .tup [.int 0, .int 1, .int 2, .int 3, .int 4, .int 0, .int 1, .int 2])]), (5750, .ins 14 [(8, .tup [.int 0, .int 1, .int 2])]), (5559, .ins 13 [(8, .tup [.int 0, .int 1, .int 2, .int 3, .int 4, .int 0, .int 1, .int 2]), (11, .tup [.int 3, .int 4, .int 0, .int 1, .int 2])]), (6141, .dct true [(.tup [], .ref 5559), (.tup [.int 2], .ref 5750), (.tup [.int 3], .ref 5948), (.tup [.int 2, .int 3], .ref 6139)]), (6140, .ins 16 [(15, .ref 6141)]), (1607, .ins 13 [(8, .tup [.int 0, .int 1, .int 2, .int 3, .int 4, .int 0, .int 1, .int 2]), (11, .tup [.int 3, .int 4, .int 0, .int 1, .int 2])]), (1802, .dct true [(.tup [], .ref 1607)]), (1797, .dct true [(.tup [.int 0, .tup [.non, .non], .tup []], .int 0), (.tup [.int 1, .tup [.tup [.int 0, .int 0, .int 4], .non], .tup [.tup [.int 4, .tup []]]], .int 0), (.tup [.int 2, .tup [.tup [.int 0, .int 0, .int 1], .non], .tup [.tup [.int 4, .tup []]]], .int 0), (.tup [.int 3, .tup [.tup [.int 0, .int 0, .int 1], .tup [.int 1, .int 0, .int 1]], .tup [.tup [.int 4, .tup []], .tup [.int 1, .tup []]]], .int 0), (.tup [.int 4, .tup [.tup [.int 0, .int 0, .int 1], .tup [.int 1, .int 0, .int 1]], .tup [.tup [.int 4, .tup []], .tup [.int 1, .tup [.int 0]]]], .int 0), (.tup [.int 0, .tup [.tup [.int 0, .int 0, .int 1], .tup [.int 1, .int 0, .int 1]], .tup [.tup [.int 4, .tup []], .tup [.int 1, .tup [.int 0]]]], .int 0), (.tup [.int 5, .tup [.tup [.int 0, .int 0, .int 1], .tup [.int 1, .int 0, .int 1]], .tup [.tup [.int 4, .tup []], .tup [.int 1, .tup [.int 0]]]], .int 0), (.tup [.int 1, .tup [.tup [.int 0, .int 0, .int 4], .tup [.int 1, .int 0, .int 1]], .tup [.tup [.int 4, .tup []], .tup [.int 1, .tup [.int 0]]]], .int 0), (.tup [.int 2, .tup [.tup [.int 0, .int 0, .int 1], .tup [.int 1, .int 0, .int 1]], .tup [.tup [.int 4, .tup []], .tup [.int 1, .tup [.int 0]]]], .int 0)]), (1796, .ins 12 [(8, .tup [.int 0, .int 1, .int 2]), (9, .int 3), (10, .ref 1797)]), (1801, .ins 15 [(13, .tup [.int 2]), (14, .ref 1796), (15, .ref 1802)]), (1446, .dct false [(.int 2, .int 1), (.int 3, .int 5)]), (1439, .ins 9 [(2, .int 4), (3, .int 2), (4, .tup [.tup [.str ⟨#[114, 101, 97, 100]⟩, .str ⟨#[97]⟩, .int 4], .tup [.str ⟨#[99, 117, 116]⟩, .str ⟨#[97]⟩, .str ⟨#[97]⟩, .int 0, .int 1], .tup [.str ⟨#[109, 111, 118, 101]⟩, .str ⟨#[98]⟩, .str ⟨#[97]⟩], .tup [.str ⟨#[107, 101, 101, 112]⟩, .str ⟨#[98]⟩], .tup [.str ⟨#[97, 115, 107]⟩, .int 0]])])]
theorem ck__law_tight_right_9 (o : Option IO) : esGc (q__law_tight_right_9 (pgN 13)) k__law_tight_right_8_s (mkH o 5444 k__law_tight_right_8_l) = .nx k__law_tight_right_9_s (mkH o 6142 k__law_tight_right_9_l) := by kernel_rfl
def k__law_tight_right_10_s : ISt := [some (.tup [.tup [.str ⟨#[114, 101, 97, 100]⟩, .str ⟨#[97]⟩, .int 4], .tup [.str ⟨#[99, 117, 116]⟩, .str ⟨#[97]⟩, .str ⟨#[97]⟩, .int 0, .int 1], .tup [.str ⟨#[109, 111, 118, 101]⟩, .str ⟨#[98]⟩, .str ⟨#[97]⟩], .tup [.str ⟨#[107, 101, 101, 112]⟩, .str ⟨#[98]⟩], .tup [.str ⟨#[97, 115, 107]⟩, .int 0]]), some (.ref 1439), some (.ref 1446), some (.ref 1801), some (.ref 6140), none, none]
def k__law_tight_right_10_l : List (Nat × IO) := [(6139, .ins 14 [(8, .tup [.int 0, .int 1, .int 2])]), (5948, .ins 14 [(8, .tup [.int 0, .int 1, .int 2, .int 3, .int 4, .int 0, .int 1, .int 2])]), (5750, .ins 14 [(8, .tup [.int 0, .int 1, .int 2])]), (5559, .ins 13 [(8, .tup [.int 0, .int 1, .int 2, .int 3, .int 4, .int 0, .int 1, .int 2]), (11, .tup [.int 3, .int 4, .int 0, .int 1, .int 2])]), (6141, .dct true [(.tup [], .ref 5559), (.tup [.int 2], .ref 5750), (.tup [.int 3], .ref 5948), (.tup [.int 2, .int 3], .ref 6139)]), (6140, .ins 16 [(15, .ref 6141)]), (1607, .ins 13 [(8, .tup [.int 0, .int 1, .int 2, .int 3, .int 4, .int 0, .int 1, .int 2]), (11, .tup [.int 3, .int 4, .int 0, .int 1, .int 2])]), (1802, .dct true [(.tup [], .ref 1607)]), (1797, .dct true [(.tup [.int 0, .tup [.non, .non], .tup []], .int 0), (.tup [.int 1, .tup [.tup [.int 0, .int 0, .int 4], .non], .tup [.tup [.int 4, .tup []]]], .int 0), (.tup [.int 2, .tup [.tup [.int 0, .int 0, .int 1], .non], .tup [.tup [.int 4, .tup []]]], .int 0), (.tup [.int 3, .tup [.tup [.int 0, .int 0, .int 1], .tup [.int 1, .int 0, .int 1]], .tup [.tup [.int 4, .tup []], .tup [.int 1, .tup []]]], .int 0), (.tup [.int 4, .tup [.tup [.int 0, .int 0, .int 1], .tup [.int 1, .int 0, .int 1]], .tup [.tup [.int 4, .tup []], .tup [.int 1, .tup [.int 0]]]], .int 0), (.tup [.int 0, .tup [.tup [.int 0, .int 0, .int 1], .tup [.int 1, .int 0, .int 1]], .tup [.tup [.int 4, .tup []], .tup [.int 1, .tup [.int 0]]]], .int 0), (.tup [.int 5, .tup [.tup [.int 0, .int 0, .int 1], .tup [.int 1, .int 0, .int 1]], .tup [.tup [.int 4, .tup []], .tup [.int 1, .tup [.int 0]]]], .int 0), (.tup [.int 1, .tup [.tup [.int 0, .int 0, .int 4], .tup [.int 1, .int 0, .int 1]], .tup [.tup [.int 4, .tup []], .tup [.int 1, .tup [.int 0]]]], .int 0), (.tup [.int 2, .tup [.tup [.int 0, .int 0, .int 1], .tup [.int 1, .int 0, .int 1]], .tup [.tup [.int 4, .tup []], .tup [.int 1, .tup [.int 0]]]], .int 0)]), (1796, .ins 12 [(8, .tup [.int 0, .int 1, .int 2]), (9, .int 3), (10, .ref 1797)]), (1801, .ins 15 [(13, .tup [.int 2]), (14, .ref 1796), (15, .ref 1802)]), (1446, .dct false [(.int 2, .int 1), (.int 3, .int 5)]), (1439, .ins 9 [(2, .int 4), (3, .int 2), (4, .tup [.tup [.str ⟨#[114, 101, 97, 100]⟩, .str ⟨#[97]⟩, .int 4], .tup [.str ⟨#[99, 117, 116]⟩, .str ⟨#[97]⟩, .str ⟨#[97]⟩, .int 0, .int 1], .tup [.str ⟨#[109, 111, 118, 101]⟩, .str ⟨#[98]⟩, .str ⟨#[97]⟩], .tup [.str ⟨#[107, 101, 101, 112]⟩, .str ⟨#[98]⟩], .tup [.str ⟨#[97, 115, 107]⟩, .int 0]])])]
theorem ck__law_tight_right_10 (o : Option IO) : esGc (q__law_tight_right_10 (pgN 13)) k__law_tight_right_9_s (mkH o 6142 k__law_tight_right_9_l) = .nx k__law_tight_right_10_s (mkH o 6509 k__law_tight_right_10_l) := by kernel_rfl
def k__law_tight_right_11_s : ISt := [some (.tup [.tup [.str ⟨#[114, 101, 97, 100]⟩, .str ⟨#[97]⟩, .int 4], .tup [.str ⟨#[99, 117, 116]⟩, .str ⟨#[97]⟩, .str ⟨#[97]⟩, .int 0, .int 1], .tup [.str ⟨#[109, 111, 118, 101]⟩, .str ⟨#[98]⟩, .str ⟨#[97]⟩], .tup [.str ⟨#[107, 101, 101, 112]⟩, .str ⟨#[98]⟩], .tup [.str ⟨#[97, 115, 107]⟩, .int 0]]), some (.ref 1439), some (.ref 1446), some (.ref 1801), some (.ref 6140), none, none]
def k__law_tight_right_11_l : List (Nat × IO) := [(6139, .ins 14 [(8, .tup [.int 0, .int 1, .int 2])]), (5948, .ins 14 [(8, .tup [.int 0, .int 1, .int 2, .int 3, .int 4, .int 0, .int 1, .int 2])]), (5750, .ins 14 [(8, .tup [.int 0, .int 1, .int 2])]), (5559, .ins 13 [(8, .tup [.int 0, .int 1, .int 2, .int 3, .int 4, .int 0, .int 1, .int 2]), (11, .tup [.int 3, .int 4, .int 0, .int 1, .int 2])]), (6141, .dct true [(.tup [], .ref 5559), (.tup [.int 2], .ref 5750), (.tup [.int 3], .ref 5948), (.tup [.int 2, .int 3], .ref 6139)]), (6140, .ins 16 [(15, .ref 6141)]), (1607, .ins 13 [(8, .tup [.int 0, .int 1, .int 2, .int 3, .int 4, .int 0, .int 1, .int 2]), (11, .tup [.int 3, .int 4, .int 0, .int 1, .int 2])]), (1802, .dct true [(.tup [], .ref 1607)]), (1797, .dct true [(.tup [.int 0, .tup [.non, .non], .tup []], .int 0), (.tup [.int 1, .tup [.tup [.int 0, .int 0, .int 4], .non], .tup [.tup [.int 4, .tup []]]], .int 0), (.tup [.int 2, .tup [.tup [.int 0, .int 0, .int 1], .non], .tup [.tup [.int 4, .tup []]]], .int 0), (.tup [.int 3, .tup [.tup [.int 0, .int 0, .int 1], .tup [.int 1, .int 0, .int 1]], .tup [.tup [.int 4, .tup []], .tup [.int 1, .tup []]]], .int 0), (.tup [.int 4, .tup [.tup [.int 0, .int 0, .int 1], .tup [.int 1, .int 0, .int 1]], .tup [.tup [.int 4, .tup []], .tup [.int 1, .tup [.int 0]]]], .int 0), (.tup [.int 0, .tup [.tup [.int 0, .int 0, .int 1], .tup [.int 1, .int 0, .int 1]], .tup [.tup [.int 4, .tup []], .tup [.int 1, .tup [.int 0]]]], .int 0), (.tup [.int 5, .tup [.tup [.int 0, .int 0, .int 1], .tup [.int 1, .int 0, .int 1]], .tup [.tup [.int 4, .tup []], .tup [.int 1, .tup [.int 0]]]], .int 0), (.tup [.int 1, .tup [.tup [.int 0, .int 0, .int 4], .tup [.int 1, .int 0, .int 1]], .tup [.tup [.int 4, .tup []], .tup [.int 1, .tup [.int 0]]]], .int 0), (.tup [.int 2, .tup [.tup [.int 0, .int 0, .int 1], .tup [.int 1, .int 0, .int 1]], .tup [.tup [.int 4, .tup []], .tup [.int 1, .tup [.int 0]]]], .int 0)]), (1796, .ins 12 [(8, .tup [.int 0, .int 1, .int 2]), (9, .int 3), (10, .ref 1797)]), (1801, .ins 15 [(13, .tup [.int 2]), (14, .ref 1796), (15, .ref 1802)]), (1446, .dct false [(.int 2, .int 1), (.int 3, .int 5)]), (1439, .ins 9 [(2, .int 4), (3, .int 2), (4, .tup [.tup [.str ⟨#[114, 101, 97, 100]⟩, .str ⟨#[97]⟩, .int 4], .tup [.str ⟨#[99, 117, 116]⟩, .str ⟨#[97]⟩, .str ⟨#[97]⟩, .int 0, .int 1], .tup [.str ⟨#[109, 111, 118, 101]⟩, .str ⟨#[98]⟩, .str ⟨#[97]⟩], .tup [.str ⟨#[107, 101, 101, 112]⟩, .str ⟨#[98]⟩], .tup [.str ⟨#[97, 115, 107]⟩, .int 0]])])]
theorem ck__law_tight_right_11 (o : Option IO) : esGc (q__law_tight_right_11 (pgN 13)) k__law_tight_right_10_s (mkH o 6509 k__law_tight_right_10_l) = .nx k__law_tight_right_11_s (mkH o 7607 k__law_tight_right_11_l) := by kernel_rfl
theorem cu__law_tight_right : (pgN 14).cl 91 = evGc (evFn 0 7 (e__law_tight_right (pgN 13))) := by kernel_rfl
theorem ce__law_tight_right (o : Option IO) : e__law_tight_right (pgN 13) (List.replicate 7 none) (mkH o 1439 []) = esGc (q__law_tight_right_12 (pgN 13)) k__law_tight_right_11_s (mkH o 7607 k__law_tight_right_11_l) := (seq_nx (ck__law_tight_right_0 o)).trans ((seq_nx (ck__law_tight_right_1 o)).trans ((seq_nx (ck__law_tight_right_2 o)).trans ((seq_nx (ck__law_tight_right_3 o)).trans ((seq_nx (ck__law_tight_right_4 o)).trans ((seq_nx (ck__law_tight_right_5 o)).trans ((seq_nx (ck__law_tight_right_6 o)).trans ((seq_nx (ck__law_tight_right_7 o)).trans ((seq_nx (ck__law_tight_right_8 o)).trans ((seq_nx (ck__law_tight_right_9 o)).trans ((seq_nx (ck__law_tight_right_10 o)).trans (seq_nx (ck__law_tight_right_11 o))))))))))))
theorem cl__law_tight_right (o : Option IO) : gcQ (endF (esGc (q__law_tight_right_12 (pgN 13)) k__law_tight_right_11_s (mkH o 7607 k__law_tight_right_11_l))) [] = .ok (.bl true) (mkH o 7784 []) := by kernel_rfl
theorem cf__law_tight_right (o : Option IO) : (pgN 14).cl 91 [] (mkH o 1439 []) = .ok (.bl true) (mkH o 7784 []) := (gc_call (cu__law_tight_right) (ce__law_tight_right o)).trans (cl__law_tight_right o)
end Gk45
set_option maxHeartbeats 3999999
namespace Gk45
open PySem PySem.Spec
open PyProof.Rows L2 SV
/-! ### the law answers true -/
theorem law_gen {p : Pg} {h0 h1 h2 : IHeap} (e1 : p.cl 90 [] h0 = .ok (.bl true) h1) (e2 : p.cl 91 [] h1 = .ok (.bl true) h2) (e3 : ivIsi p [.ref 0, .ty 4] h2 = .ok (.bl true) h2) : evFn 1 1 (e_law p) [.ref 0] h0 = .ok (.bl true) h2 := by
  show endF ((evAnd (evF (p.cl 90) eaN) (evAnd (evF (p.cl 91) eaN) (evF (ivIsi p) (eaC (evV 0) (eaC (evC (.ty 4)) eaN)))) [some (.ref 0)] h0).st [some (.ref 0)] fun v h1 => .rt v h1) = _
  have z : evAnd (evF (p.cl 90) eaN) (evAnd (evF (p.cl 91) eaN) (evF (ivIsi p) (eaC (evV 0) (eaC (evC (.ty 4)) eaN)))) [some (.ref 0)] h0 = .ok (.bl true) h2 := by
    show (p.cl 90 [] h0).bind _ = _
    rw [e1]
    show (p.cl 91 [] h1).bind _ = _
    rw [e2]
    exact e3
  rw [z]
  rfl
theorem law_true (ns : List Int) (o : IO) (ho : o = IO.lst (ns.map .int) ∨ o = IO.frz (ns.map .int)) : ∃ h, evFn 1 1 (e_law (pgN 14)) [.ref 0] ⟨1, .nd (some o) .lf .lf⟩ = .ok (.bl true) h :=
  ⟨_, law_gen (cf__law_meeting_right (some o)) (cf__law_tight_right (some o)) (by rcases ho with rfl | rfl <;> kernel_rfl)⟩
theorem law_at (w : World) (mg : Str → Option Value) (fa : Addr) (h : Heap) (Y : HD.hook.says w h) (G : h.Ns mainGlobals mg) (hfa : mg ("law" : Str) = some (.ref fa)) :
    ∃ K : PySem.W.Frag, K.In h ∧ LamX.LawAtS PySem.Challenge.rw_sliverhold_k45_known_all w K (L2.CX (PySem.Challenge.rw_sliverhold_k45_known_all).prog w) (5 * 14 + 5) 63 "_law_script" mg fa h := by
  obtain ⟨K, X, c⟩ := Y
  obtain ⟨fd, Fd⟩ := c.dff 92 (d := d_law)
  have ef : He.ga K "law" = fa := by
    have e := (He.glo_ok X G (x := "law") (c.fct 164)).symm.trans hfa
    cases e
    rfl
  refine ⟨K, X, fd, lamD.map (He.cT K), fun vs H Q E => vs.length = 1 ∧ spR (mkT K (PySem.Challenge.rw_sliverhold_k45_known_all).prog w) (evFn 1 1 (e_law (pgN 14))) vs H Q E, fun p hp => ?_, fun p hp => ?_, fun p hp => ?_, ?_, ?_, ?_⟩
  · obtain ⟨q, hq, rfl⟩ := List.mem_map.mp hp
    exact c.empty q hq
  · obtain ⟨q, hq, rfl⟩ := List.mem_map.mp hp
    exact c.out q hq
  · obtain ⟨q, hq, rfl⟩ := List.mem_map.mp hp
    exact PySem.W.codeHd_of_K X (c.hd q hq)
  · have b := FunD.bindsA (ps := ["_law_script"]) Fd fun _ _ _ _ _ _ us hl => match us, hl with | [_], _ => rfl
    exact fun s u => b s [u] rfl
  · intro H a ns _ _ hT hS
    refine ⟨rfl, law_sp (T := mkT K (PySem.Challenge.rw_sliverhold_k45_known_all).prog w) hS (fun p hp => ?_) (law_true ns)⟩
    have ep := List.mem_singleton.mp hp; subst ep
    exact LamX.TabS.nil (hT _ (List.mem_map.mpr ⟨_, List.mem_singleton.mpr rfl, rfl⟩))
  · intro base X2 G2 tb
    rw [← ef]
    have tb2 : ∀ p ∈ lamD, LamX.TabB base mg (He.cT K p).1 (He.cT K p).2 := fun p hp => tb _ (List.mem_map.mpr ⟨p, hp, rfl⟩)
    have M := mg_of (P := (PySem.Challenge.rw_sliverhold_k45_known_all).prog) (w := w) X G c
    exact ok_law c M tb2 (at_N c M tb2 14) Fd
/-! ### the run of the top -/
theorem run_of {α β γ : Type} {o : Option PySem.W.SharedT} {f : PySem.W.SharedT → α} {g : PySem.W.SharedT → β} {k : PySem.W.SharedT → γ} {a : α} {b : β} {c : γ} (h1 : o.map f = some a) (h2 : o.map g = some b) (h3 : o.map k = some c) : o.map (fun s => (f s, g s, k s)) = some (a, b, c) := by
  cases o with
  | none => exact nomatch h1
  | some s =>
    rw [← Option.some.inj h1, ← Option.some.inj h2, ← Option.some.inj h3]
    rfl
end Gk45
set_option maxHeartbeats 0
namespace Gk45
open PySem PySem.Spec
open PyProof.Rows L2 SV
theorem run_f (w : World) : HandSHeadRun.RunEq R (PySem.W.view R.prog [96]) HD.hook ob 9000 loose (w.withFollow "special-get-raises" false) := fun os => run_of (r1f w os) (r2f w os) (r3f w os)
theorem run_t (w : World) : HandSHeadRun.RunEq R (PySem.W.view R.prog [96]) HD.hook ob 9000 loose (w.withFollow "special-get-raises" true) := fun os => run_of (r1t w os) (r2t w os) (r3t w os)
theorem run (w : World) : HandSHeadRun.RunEq R (PySem.W.view R.prog [96]) HD.hook ob 9000 loose w := PySem.W.byRow2 "special-get-raises" (P := fun w => HandSHeadRun.RunEq R (PySem.W.view R.prog [96]) HD.hook ob 9000 loose w) run_f run_t w
end Gk45
open PySem PySem.W
open PySem.Calls PyProof.Rows
theorem PySem.Challenge.cw_sliverhold_k45_known_all_holds : PySem.Challenge.rw_sliverhold_k45_known_all.Holds := by
  w_on; o_law
  refine HandSHeadRun.head_any (r := OpenLaw.row PySem.Challenge.rw_sliverhold_k45_known_all) (q := view (OpenLaw.row PySem.Challenge.rw_sliverhold_k45_known_all).prog [96]) (H := Gk45.HD.hook) (ob := Gk45.ob) (M := 9000) (loose := Gk45.loose) (d := HandSHeadRun.topDef (OpenLaw.row PySem.Challenge.rw_sliverhold_k45_known_all).prog 96) (kwd := []) (SV.HeadS.obs_eq Gk45.HD)
    (by kernel_rfl) (fun s => by kernel_rfl) Gk45.run (by kernel_rfl) (by kernel_rfl) (by kernel_rfl) (by rfl) (by first | assumption | decide +kernel) (by decide +kernel) ⟨rfl, rfl, rfl, rfl, rfl, by decide +kernel⟩ ?hw ?hc
  case hw => w_witness2
  case hc =>
    refine LamX.walk_ofTsE (l := PySem.Challenge.rw_sliverhold_k45_known_all) (n := 63) (k := 5 * 14 + 5) (x := "_law_script") (CX := fun w => L2.CX (PySem.Challenge.rw_sliverhold_k45_known_all).prog w) rfl (by decide) (by kernel_rfl) ⟨rfl, by decide, by decide⟩ ?F (fun w H s e s' c => by
      obtain ⟨a, B, H', cls, d, _, _, _, _, _, _, _, z⟩ := c
      exact z)
    intro w mg fa h Y G hmg0
    have hmg1 : mg ("law" : PySem.Str) = some (.ref fa) := by
      have e : (HandSHeadRun.topDef (OpenLaw.row PySem.Challenge.rw_sliverhold_k45_known_all).prog 96).name = ("law" : PySem.Str) := by kernel_rfl
      rw [← e]
      exact hmg0
    exact Gk45.law_at w mg fa h Y G hmg1
