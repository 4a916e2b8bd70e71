import PyProof.Rows.All
import Wide.All
import OpenK.AllK
import Wide.FinOn
import HandS.ForMost
import HandS.Exc
import HandS.TupAny
import HandS.Star
import HandS.Defaults
import HandS.IsInst
import HandS.HeadHook2
import HandS.ExcInit
import HandS.ClsMeth
import HandS.ExcField
import KE.KExcIs
import KE.KExcSuper
import HandS.TupMul
import HandS.Strs
import HandS.Style
import HandS.FStr
import HandS.DictComp
import HandS.Conv
import HandS.Head0
import HandS.Head1
import HandS.Head2
import HandS.HeadEnd
import HandS.Words
import KE.KSuper
import HandS.Nested
import PySem.Challenge.RW_neargrades_k13_errors
set_option Elab.async false
set_option linter.all false
set_option maxRecDepth 100000
set_option maxHeartbeats 0
namespace Ab
open PySem

/-- a value: tuples are inline, all that changes stands in the numbered heap -/
inductive AV where
  | non
  | bl (b : Bool)
  | int (i : Int)
  | str (x : Str)
  | tup (xs : List AV)
  | ref (n : Nat)
  | ty (s : String)
  | fn (k : Nat)
  | cl (k : Nat)

mutual
def AV.beq : AV → AV → Bool
  | .non, .non => true
  | .bl a, .bl b => a == b
  | .int a, .int b => decide (a = b)
  | .str a, .str b => decide (a = b)
  | .tup xs, .tup ys => AV.beqs xs ys
  | .ref a, .ref b => a == b
  | .ty a, .ty b => decide (a = b)
  | .fn a, .fn b => a == b
  | .cl a, .cl b => a == b
  | _, _ => false
def AV.beqs : List AV → List AV → Bool
  | [], [] => true
  | x :: xs, y :: ys => AV.beq x y && AV.beqs xs ys
  | _, _ => false
end

/-- an object -/
inductive AO where
  | lst (xs : List AV)
  | dct (kvs : List (L2.Key × AV))
  | dtt (kvs : List (List L2.Key × AV))
  | ins (c : Nat) (fs : List (Nat × AV))
  | lck (o : AO)
  | exo (c : Nat) (d : Option Nat)
  | xdc (fs : List (Nat × AV))

/-- a trie -/
inductive Tr where
  | nil
  | node (o : Option AO) (l r : Tr)
def Tr.get : Tr → Nat → Option AO
  | .nil, _ => none
  | .node o l r, i => match i with
    | 0 => o
    | i + 1 => if i % 2 = 0 then l.get (i / 2) else r.get (i / 2)
def Tr.root : Tr → Option AO
  | .nil => none
  | .node o _ _ => o
def Tr.lft : Tr → Tr
  | .nil => .nil
  | .node _ l _ => l
def Tr.rgt : Tr → Tr
  | .nil => .nil
  | .node _ _ r => r
def Tr.put : Nat → Tr → Nat → AO → Tr
  | 0, t, _, _ => t
  | n + 1, t, i, o => match i with
    | 0 => .node (some o) t.lft t.rgt
    | i + 1 => if i % 2 = 0 then .node t.root (Tr.put n t.lft (i / 2) o) t.rgt else .node t.root t.lft (Tr.put n t.rgt (i / 2) o)
theorem Tr.get_nil (i : Nat) : Tr.nil.get i = none := by cases i <;> rfl
theorem Tr.get_parts (t : Tr) (i : Nat) : t.get i = match i with
    | 0 => t.root
    | i + 1 => if i % 2 = 0 then t.lft.get (i / 2) else t.rgt.get (i / 2) := by
  cases t with
  | nil =>
    cases i with
    | zero => rfl
    | succ i =>
      show none = if i % 2 = 0 then Tr.nil.get (i / 2) else Tr.nil.get (i / 2)
      rw [Tr.get_nil]; split <;> rfl
  | node o l r => cases i <;> rfl
theorem Tr.get_put : ∀ (n : Nat) (t : Tr) (i : Nat) (o : AO) (j : Nat), i < n → (Tr.put n t i o).get j = if j = i then some o else t.get j
  | 0, _, _, _, _, h => absurd h (Nat.not_lt_zero _)
  | n + 1, t, i, o, j, h => by
    rw [Tr.get_parts (Tr.put (n + 1) t i o) j, Tr.get_parts t j]
    cases i with
    | zero =>
      cases j with
      | zero => rfl
      | succ j => rw [if_neg (by omega)]; rfl
    | succ i =>
      by_cases hi : i % 2 = 0
      · have e : Tr.put (n + 1) t (i + 1) o = .node t.root (Tr.put n t.lft (i / 2) o) t.rgt := by
          show (if i % 2 = 0 then _ else _) = _
          rw [if_pos hi]
        rw [e]
        cases j with
        | zero => rw [if_neg (by omega)]; rfl
        | succ j =>
          show (if j % 2 = 0 then (Tr.put n t.lft (i / 2) o).get (j / 2) else t.rgt.get (j / 2)) = _
          by_cases hj : j % 2 = 0
          · rw [if_pos hj, Tr.get_put n t.lft (i / 2) o (j / 2) (by omega)]
            by_cases hij : j = i
            · subst hij; rw [if_pos rfl, if_pos rfl]
            · rw [if_neg (by omega), if_neg (by omega)]
              show _ = if j % 2 = 0 then _ else _
              rw [if_pos hj]
          · rw [if_neg hj, if_neg (by omega)]
            show _ = if j % 2 = 0 then _ else _
            rw [if_neg hj]
      · have e : Tr.put (n + 1) t (i + 1) o = .node t.root t.lft (Tr.put n t.rgt (i / 2) o) := by
          show (if i % 2 = 0 then _ else _) = _
          rw [if_neg hi]
        rw [e]
        cases j with
        | zero => rw [if_neg (by omega)]; rfl
        | succ j =>
          show (if j % 2 = 0 then t.lft.get (j / 2) else (Tr.put n t.rgt (i / 2) o).get (j / 2)) = _
          by_cases hj : j % 2 = 0
          · rw [if_pos hj, if_neg (by omega)]
            show _ = if j % 2 = 0 then _ else _
            rw [if_pos hj]
          · rw [if_neg hj, Tr.get_put n t.rgt (i / 2) o (j / 2) (by omega)]
            by_cases hij : j = i
            · subst hij; rw [if_pos rfl, if_pos rfl]
            · rw [if_neg (by omega), if_neg (by omega)]
              show _ = if j % 2 = 0 then _ else _
              rw [if_neg hj]

/-- the numbered heap -/
structure Hs where
  t : Tr
  n : Nat
def Hs.get (h : Hs) (i : Nat) : Option AO := if i < h.n then h.t.get i else none
def Hs.push (h : Hs) (o : AO) : Hs := ⟨Tr.put (h.n + 1) h.t h.n o, h.n + 1⟩
def Hs.set (h : Hs) (i : Nat) (o : AO) : Hs := ⟨Tr.put (i + 1) h.t i o, h.n⟩
theorem Hs.push_n (h : Hs) (o : AO) : (h.push o).n = h.n + 1 := rfl
theorem Hs.set_n (h : Hs) (i : Nat) (o : AO) : (h.set i o).n = h.n := rfl
theorem Hs.lt_of_get {h : Hs} {i : Nat} {o : AO} (e : h.get i = some o) : i < h.n := by
  unfold Hs.get at e
  by_cases c : i < h.n
  · exact c
  · rw [if_neg c] at e; cases e
theorem Hs.get_push_self (h : Hs) (o : AO) : (h.push o).get h.n = some o := by
  unfold Hs.get Hs.push
  rw [if_pos (Nat.lt_succ_self _), Tr.get_put _ _ _ _ _ (Nat.lt_succ_self _), if_pos rfl]
theorem Hs.get_push_ne {h : Hs} {o : AO} {i : Nat} (e : i ≠ h.n) : (h.push o).get i = h.get i := by
  unfold Hs.get Hs.push
  show (if i < h.n + 1 then (Tr.put (h.n + 1) h.t h.n o).get i else none) = _
  by_cases c : i < h.n
  · rw [if_pos c, if_pos (by omega), Tr.get_put _ _ _ _ _ (Nat.lt_succ_self _), if_neg e]
  · rw [if_neg c, if_neg (by omega)]
theorem Hs.get_push_of {h : Hs} {o o' : AO} {i : Nat} (e : h.get i = some o') : (h.push o).get i = some o' := by
  rw [Hs.get_push_ne (Nat.ne_of_lt (Hs.lt_of_get e))]; exact e
theorem Hs.get_set_self {h : Hs} {i : Nat} {o : AO} (c : i < h.n) : (h.set i o).get i = some o := by
  unfold Hs.get Hs.set
  show (if i < h.n then (Tr.put (i + 1) h.t i o).get i else none) = _
  rw [if_pos c, Tr.get_put _ _ _ _ _ (Nat.lt_succ_self _), if_pos rfl]
theorem Hs.get_set_ne {h : Hs} {i j : Nat} {o : AO} (e : j ≠ i) : (h.set i o).get j = h.get j := by
  unfold Hs.get Hs.set
  show (if j < h.n then (Tr.put (i + 1) h.t i o).get j else none) = _
  by_cases c : j < h.n
  · rw [if_pos c, if_pos c, Tr.get_put _ _ _ _ _ (Nat.lt_succ_self _), if_neg e]
  · rw [if_neg c, if_neg c]

/-- an exception in the air: its class, its fields -/
structure AX where
  c : Nat
  fs : List (Nat × AV)
/-- an end -/
inductive Rs (α : Type) where
  | ok (a : α) (S : Hs)
  | exc (x : AX) (S : Hs)
  | bad
def Rs.bind {α β : Type} (r : Rs α) (f : α → Hs → Rs β) : Rs β := match r with
  | .ok a S => f a S
  | .exc x S => .exc x S
  | .bad => .bad
end Ab

namespace Ab
open PySem L2

/-- what a class is to the interpreter -/
structure Cl where
  name : Str
  meths : List (Nat × Nat)
  ini : Option Nat
  sup : List Nat
  flds : List Nat
  plain : Bool
  xb : Nat := 0
  xf : List Nat := []
  xi : Option Nat := none
/-- the names and places that values lean on -/
structure Gx where
  nms : List Str
  fns : List (Str × Option Str)
  cls : List Cl
  cons : List (Str × AV)
  kws : List (Nat × List Str) := []
  grd : List Nat := []
/-- a def's keyword-only names -/
def kwOf (G : Gx) (k : Nat) : List Str := (G.kws.lookup k).getD []
/-- how a def binds: its last parameters by keyword -/
def BdG (K : PySem.W.Frag) (fd : FuncData) (ps ks : List Str) : Prop :=
  ∀ (s : Shared) (us : List Value), K.In s.heap → us.length = ps.length → BindsTo s fd ⟨us.take (ps.length - ks.length), ks.zip (us.drop (ps.length - ks.length))⟩ (ps.zip us)
theorem BdG.pos {K : PySem.W.Frag} {fd : FuncData} {ps : List Str} (h : BdG K fd ps []) : Binds K fd ps [] := fun s us X hl => by
  rw [List.append_nil] at hl ⊢
  have q := h s us X hl
  simp only [List.length_nil, Nat.sub_zero, List.zip_nil_left] at q
  rw [← hl, List.take_length] at q
  exact q
theorem BdG.of {K : PySem.W.Frag} {fd : FuncData} {ps : List Str} (h : Binds K fd ps []) : BdG K fd ps [] := fun s us X hl => by
  have q := h s us X (by rw [List.append_nil]; exact hl)
  rw [List.append_nil] at q
  simp only [List.length_nil, Nat.sub_zero, List.zip_nil_left]
  rw [← hl, List.take_length]
  exact q

section
variable (K : PySem.W.Frag) (G : Gx) (ι : Nat → Addr) (m : Nat) (H : Hp)
mutual
inductive RV : AV → V → Prop
  | non : RV .non .non
  | bl (b : Bool) : RV (.bl b) (.bl b)
  | int (i : Int) : RV (.int i) (.int i)
  | str (x : Str) : RV (.str x) (.str x)
  | tup {xs : List AV} {a : Addr} {vs : List V} : SqT K H a vs → RVs xs vs → RV (.tup xs) (.ref a)
  | ref {n : Nat} : n < m → RV (.ref n) (.ref (ι n))
  | ty (s : String) : RV (.ty s) (.ty s)
  | fn {k : Nat} {f : Str × Option Str} : G.fns[k]? = some f → RV (.fn k) (.ref (He.fAd K f))
  | cl {k : Nat} {c : Cl} : G.cls[k]? = some c → RV (.cl k) (.ref (He.ga K c.name))
inductive RVs : List AV → List V → Prop
  | nil : RVs [] []
  | cons {x : AV} {v : V} {xs : List AV} {vs : List V} : RV x v → RVs xs vs → RVs (x :: xs) (v :: vs)
end
/-- a dict's pairs -/
inductive RKs {κ : Type} : List (κ × AV) → List (κ × V) → Prop
  | nil : RKs [] []
  | cons {k : κ} {x : AV} {v : V} {xs : List (κ × AV)} {vs : List (κ × V)} : RV K G ι m H x v → RKs xs vs → RKs ((k, x) :: xs) ((k, v) :: vs)
/-- an instance's fields -/
inductive RFs : List (Nat × AV) → List (Str × V) → Prop
  | nil : RFs [] []
  | cons {k : Nat} {f : Str} {x : AV} {v : V} {xs : List (Nat × AV)} {vs : List (Str × V)} : G.nms[k]? = some f → RV K G ι m H x v → RFs xs vs → RFs ((k, x) :: xs) ((f, v) :: vs)
/-- an object, at its address -/
inductive RU : Addr → AO → HO → Prop
  | lst {a : Addr} {xs : List AV} {vs : List V} : RVs K G ι m H xs vs → RU a (.lst xs) (.lst vs)
  | dct {a : Addr} {xs : List (Key × AV)} {vs : List (Key × V)} : RKs K G ι m H xs vs → RU a (.dct xs) (.dK vs)
  | dtt {a : Addr} {xs : List (List Key × AV)} {vs : List (List Key × V)} : RKs K G ι m H xs vs → RU a (.dtt xs) (.dT vs)
  | ins {a : Addr} {k : Nat} {c : Cl} {dx : Addr} {xs : List (Nat × AV)} {vs : List (Str × V)} : G.cls[k]? = some c → RFs K G ι m H xs vs → RU a (.ins k xs) (.ins (He.ga K c.name) dx vs)
  | lck {a : Addr} {o : AO} {ob : Obj} {u : HO} : RU a o u → RU a (.lck o) (.frz ob u)
  | exo {a : Addr} {k : Nat} {c : Cl} {d : Option Nat} {u : HO} : G.cls[k]? = some c → (∀ n, d = some n → n < m) → u = L2.exo a (He.ga K c.name) (d.map ι) → RU a (.exo k d) u
  | xdc {a : Addr} {xs : List (Nat × AV)} {vs : List (Str × V)} {u : HO} : RFs K G ι m H xs vs → u = L2.exd a vs → RU a (.xdc xs) u
end

/-- the heap grows: numbers, tuples stay -/
structure Le (K : PySem.W.Frag) (ι : Nat → Addr) (m : Nat) (H : Hp) (ι' : Nat → Addr) (m' : Nat) (H' : Hp) : Prop where
  sz : m ≤ m'
  ag : ∀ n, n < m → ι' n = ι n
  tp : ∀ a vs, SqT K H a vs → SqT K H' a vs
  fr : ∀ a u, H a = some u → (∀ n, n < m → ι n ≠ a) → H' a = some u
  nw : ∀ n, m ≤ n → n < m' → H (ι' n) = none
  dom : ∀ a, H' a = none → H a = none
theorem Le.refl {K : PySem.W.Frag} {ι : Nat → Addr} {m : Nat} {H : Hp} : Le K ι m H ι m H := ⟨Nat.le_refl _, fun _ _ => rfl, fun _ _ h => h, fun _ _ h _ => h, fun n h1 h2 => absurd h1 (Nat.not_le_of_lt h2), fun _ h => h⟩
theorem Le.trans {K : PySem.W.Frag} {ι ι1 ι2 : Nat → Addr} {m m1 m2 : Nat} {H H1 H2 : Hp} (a : Le K ι m H ι1 m1 H1) (b : Le K ι1 m1 H1 ι2 m2 H2) : Le K ι m H ι2 m2 H2 :=
  ⟨Nat.le_trans a.sz b.sz, fun n h => (b.ag n (Nat.lt_of_lt_of_le h a.sz)).trans (a.ag n h), fun x vs h => b.tp x vs (a.tp x vs h), fun x u h hn => b.fr x u (a.fr x u h hn) (fun n hm => (by
      by_cases c : n < m
      · rw [a.ag n c]; exact hn n c
      · intro e
        have q := a.nw n (Nat.le_of_not_lt c) hm
        rw [e, h] at q
        exact nomatch q)),
    fun n h1 h2 => (by
      by_cases c : n < m1
      · rw [b.ag n c]; exact a.nw n h1 c
      · exact a.dom _ (b.nw n (Nat.le_of_not_lt c) h2)), fun x h => a.dom x (b.dom x h)⟩

/-- what values lean on stays -/
structure Lw (K : PySem.W.Frag) (ι : Nat → Addr) (m : Nat) (H : Hp) (ι' : Nat → Addr) (m' : Nat) (H' : Hp) : Prop where
  sz : m ≤ m'
  ag : ∀ n, n < m → ι' n = ι n
  tp : ∀ a vs, SqT K H a vs → SqT K H' a vs
theorem Le.w {K : PySem.W.Frag} {ι ι' : Nat → Addr} {m m' : Nat} {H H' : Hp} (le : Le K ι m H ι' m' H') : Lw K ι m H ι' m' H' := ⟨le.sz, le.ag, le.tp⟩
section
variable {K : PySem.W.Frag} {G : Gx} {ι ι' : Nat → Addr} {m m' : Nat} {H H' : Hp}
mutual
theorem RV.monoW (le : Lw K ι m H ι' m' H') : ∀ {x : AV} {v : V}, RV K G ι m H x v → RV K G ι' m' H' x v
  | _, _, .non => .non
  | _, _, .bl b => .bl b
  | _, _, .int i => .int i
  | _, _, .str x => .str x
  | _, _, .tup h r => .tup (le.tp _ _ h) (RVs.monoW le r)
  | _, _, .ref (n := n) h => le.ag n h ▸ .ref (Nat.lt_of_lt_of_le h le.sz)
  | _, _, .ty s => .ty s
  | _, _, .fn h => .fn h
  | _, _, .cl h => .cl h
theorem RVs.monoW (le : Lw K ι m H ι' m' H') : ∀ {x : List AV} {v : List V}, RVs K G ι m H x v → RVs K G ι' m' H' x v
  | _, _, .nil => .nil
  | _, _, .cons r t => .cons (RV.monoW le r) (RVs.monoW le t)
end
theorem RKs.monoW (le : Lw K ι m H ι' m' H') {κ : Type} : ∀ {x : List (κ × AV)} {v : List (κ × V)}, RKs K G ι m H x v → RKs K G ι' m' H' x v
  | _, _, .nil => .nil
  | _, _, .cons r t => .cons (r.monoW le) (RKs.monoW le t)
theorem RFs.monoW (le : Lw K ι m H ι' m' H') : ∀ {x : List (Nat × AV)} {v : List (Str × V)}, RFs K G ι m H x v → RFs K G ι' m' H' x v
  | _, _, .nil => .nil
  | _, _, .cons e r t => .cons e (r.monoW le) (RFs.monoW le t)
theorem map_ag (le : Lw K ι m H ι' m' H') {d : Option Nat} (hd : ∀ n, d = some n → n < m) : d.map ι' = d.map ι := by
  cases d with
  | none => rfl
  | some n => show some (ι' n) = some (ι n); rw [le.ag n (hd n rfl)]
theorem RU.monoW (le : Lw K ι m H ι' m' H') : ∀ {a : Addr} {x : AO} {v : HO}, RU K G ι m H a x v → RU K G ι' m' H' a x v
  | _, _, _, .lst r => .lst (r.monoW le)
  | _, _, _, .dct r => .dct (r.monoW le)
  | _, _, _, .dtt r => .dtt (r.monoW le)
  | _, _, _, .ins e r => .ins e (r.monoW le)
  | _, _, _, .lck r => .lck (RU.monoW le r)
  | _, _, _, .exo e h eu => .exo e (fun n hn => Nat.lt_of_lt_of_le (h n hn) le.sz) (by rw [map_ag le h]; exact eu)
  | _, _, _, .xdc r eu => .xdc (r.monoW le) eu

theorem RV.mono (le : Le K ι m H ι' m' H') {x : AV} {v : V} (r : RV K G ι m H x v) : RV K G ι' m' H' x v := r.monoW le.w
theorem RVs.mono (le : Le K ι m H ι' m' H') {x : List AV} {v : List V} (r : RVs K G ι m H x v) : RVs K G ι' m' H' x v := r.monoW le.w
theorem RKs.mono (le : Le K ι m H ι' m' H') {κ : Type} {x : List (κ × AV)} {v : List (κ × V)} (r : RKs K G ι m H x v) : RKs K G ι' m' H' x v := r.monoW le.w
theorem RFs.mono (le : Le K ι m H ι' m' H') {x : List (Nat × AV)} {v : List (Str × V)} (r : RFs K G ι m H x v) : RFs K G ι' m' H' x v := r.monoW le.w
theorem RU.mono (le : Le K ι m H ι' m' H') {a : Addr} {x : AO} {v : HO} (r : RU K G ι m H a x v) : RU K G ι' m' H' a x v := r.monoW le.w

theorem RVs.length : ∀ {xs : List AV} {vs : List V}, RVs K G ι m H xs vs → xs.length = vs.length
  | _, _, .nil => rfl
  | _, _, .cons _ t => by rw [List.length_cons, List.length_cons, RVs.length t]
theorem RVs.append : ∀ {xs ys : List AV} {vs ws : List V}, RVs K G ι m H xs vs → RVs K G ι m H ys ws → RVs K G ι m H (xs ++ ys) (vs ++ ws)
  | _, _, _, _, .nil, s => s
  | _, _, _, _, .cons r t, s => .cons r (RVs.append t s)
theorem RVs.get : ∀ {xs : List AV} {vs : List V} {i : Nat} {x : AV}, RVs K G ι m H xs vs → xs[i]? = some x → ∃ v, vs[i]? = some v ∧ RV K G ι m H x v
  | _, _, _, _, .nil, e => by simp at e
  | _, _, 0, _, .cons r _, e => by simp at e; subst e; exact ⟨_, rfl, r⟩
  | _, _, i + 1, x, .cons _ t, e => by
    obtain ⟨v, h1, h2⟩ := RVs.get (i := i) (x := x) t (by simpa using e)
    exact ⟨v, by simpa using h1, h2⟩
theorem RVs.getR : ∀ {xs : List AV} {vs : List V} {i : Nat} {v : V}, RVs K G ι m H xs vs → vs[i]? = some v → ∃ x, xs[i]? = some x ∧ RV K G ι m H x v
  | _, _, _, _, .nil, e => by simp at e
  | _, _, 0, _, .cons r _, e => by simp at e; subst e; exact ⟨_, rfl, r⟩
  | _, _, i + 1, x, .cons _ t, e => by
    obtain ⟨v, h1, h2⟩ := RVs.getR (i := i) (v := x) t (by simpa using e)
    exact ⟨v, by simpa using h1, h2⟩
theorem RVs.set {x : AV} {v : V} (r : RV K G ι m H x v) : ∀ {xs : List AV} {vs : List V} (i : Nat), RVs K G ι m H xs vs → RVs K G ι m H (xs.set i x) (vs.set i v)
  | _, _, _, .nil => .nil
  | _, _, 0, .cons _ t => .cons r t
  | _, _, i + 1, .cons q t => .cons q (RVs.set r i t)
theorem RVs.take : ∀ {xs : List AV} {vs : List V} (n : Nat), RVs K G ι m H xs vs → RVs K G ι m H (xs.take n) (vs.take n)
  | _, _, 0, _ => by simp only [List.take_zero]; exact .nil
  | _, _, _ + 1, .nil => .nil
  | _, _, n + 1, .cons r t => .cons r (RVs.take n t)
theorem RVs.drop : ∀ {xs : List AV} {vs : List V} (n : Nat), RVs K G ι m H xs vs → RVs K G ι m H (xs.drop n) (vs.drop n)
  | _, _, 0, r => r
  | _, _, _ + 1, .nil => .nil
  | _, _, n + 1, .cons _ t => RVs.drop n t
end

/-- the numbered heap in the layer's heap -/
structure RH (K : PySem.W.Frag) (G : Gx) (ι : Nat → Addr) (S : Hs) (H : Hp) : Prop where
  inj : ∀ i j, i < S.n → j < S.n → ι i = ι j → i = j
  all : ∀ i, i < S.n → ∃ o u, S.get i = some o ∧ H (ι i) = some u ∧ RU K G ι S.n H (ι i) o u
section
variable {K : PySem.W.Frag} {G : Gx} {ι : Nat → Addr} {S : Hs} {H : Hp}
theorem RH.obj (r : RH K G ι S H) {i : Nat} {o : AO} (e : S.get i = some o) : ∃ u, H (ι i) = some u ∧ RU K G ι S.n H (ι i) o u := by
  obtain ⟨o', u, e1, e2, e3⟩ := r.all i (Hs.lt_of_get e)
  rw [e] at e1; cases e1
  exact ⟨u, e2, e3⟩
theorem RH.ne (r : RH K G ι S H) {p : Addr} (hp : H p = none) {i : Nat} (h : i < S.n) : ι i ≠ p := fun e => by
  obtain ⟨_, u, _, e2, _⟩ := r.all i h
  rw [e, hp] at e2; cases e2

theorem sqT_upd_new {p : Addr} {u : HO} (hp : H p = none) : ∀ a vs, SqT K H a vs → SqT K (upd H p u) a vs := fun a vs h => by
  rcases h with (h | ⟨o, h⟩) | h
  · exact .inl (.inl (by rw [upd_ne (ne_of_none h hp)]; exact h))
  · exact .inl (.inr ⟨o, by rw [upd_ne (ne_of_none h hp)]; exact h⟩)
  · exact .inr h
theorem dom_upd {p : Addr} {u : HO} : ∀ a, upd H p u a = none → H a = none := fun a h => by
  by_cases e : a = p
  · rw [e, upd_same] at h; cases h
  · rw [upd_ne e] at h; exact h
theorem Le.new {ι : Nat → Addr} {m : Nat} {p : Addr} {u : HO} (hp : H p = none) : Le K ι m H ι m (upd H p u) :=
  ⟨Nat.le_refl _, fun _ _ => rfl, sqT_upd_new hp, fun a w h _ => by rw [upd_ne (ne_of_none h hp)]; exact h, fun n h1 h2 => absurd h1 (Nat.not_le_of_lt h2), dom_upd⟩
/-- what is not numbered is laid anew -/
theorem RH.off (r : RH K G ι S H) {p : Addr} {u : HO} (hp : H p = none) : RH K G ι S (upd H p u) :=
  ⟨r.inj, fun i h => by
    obtain ⟨o, w, e1, e2, e3⟩ := r.all i h
    exact ⟨o, w, e1, by rw [upd_ne (r.ne hp h)]; exact e2, e3.mono (Le.new hp)⟩⟩
def ext (ι : Nat → Addr) (n : Nat) (p : Addr) : Nat → Addr := fun i => if i = n then p else ι i
theorem ext_old {ι : Nat → Addr} {n i : Nat} {p : Addr} (h : i < n) : ext ι n p i = ι i := if_neg (Nat.ne_of_lt h)
theorem ext_new {ι : Nat → Addr} {n : Nat} {p : Addr} : ext ι n p n = p := if_pos rfl
theorem Le.push {p : Addr} {u : HO} (hp : H p = none) {o : AO} : Le K ι S.n H (ext ι S.n p) (S.push o).n (upd H p u) :=
  ⟨Nat.le_succ _, fun _ h => ext_old h, sqT_upd_new hp, fun a w h _ => by rw [upd_ne (ne_of_none h hp)]; exact h, fun n h1 h2 => by
      rw [Hs.push_n] at h2
      have e : n = S.n := by omega
      rw [e, ext_new]; exact hp, dom_upd⟩
/-- a new object is laid and numbered -/
theorem RH.push (r : RH K G ι S H) {p : Addr} {u : HO} {o : AO} (hp : H p = none) (ru : RU K G ι S.n H p o u) : RH K G (ext ι S.n p) (S.push o) (upd H p u) := by
  have le : Le K ι S.n H (ext ι S.n p) (S.push o).n (upd H p u) := Le.push (S := S) hp
  refine ⟨fun i j hi hj e => ?_, fun i h => ?_⟩
  · rw [Hs.push_n] at hi hj
    by_cases ci : i = S.n
    · by_cases cj : j = S.n
      · omega
      · rw [ci, ext_new, ext_old (by omega)] at e
        exact absurd e.symm (r.ne hp (by omega))
    · by_cases cj : j = S.n
      · rw [cj, ext_new, ext_old (by omega)] at e
        exact absurd e (r.ne hp (by omega))
      · rw [ext_old (by omega), ext_old (by omega)] at e
        exact r.inj i j (by omega) (by omega) e
  · rw [Hs.push_n] at h
    by_cases ci : i = S.n
    · subst ci
      refine ⟨o, u, Hs.get_push_self _ _, by rw [ext_new]; exact upd_same, ?_⟩
      rw [ext_new]; exact ru.mono le
    · obtain ⟨o', w, e1, e2, e3⟩ := r.all i (by omega)
      rw [ext_old (by omega)]
      refine ⟨o', w, Hs.get_push_of e1, ?_, e3.mono le⟩
      rw [upd_ne (r.ne hp (by omega))]; exact e2
/-- no numbered object is a tuple -/
def NoTup : HO → Prop
  | .tup _ => False
  | .frz _ u => NoTup u
  | _ => True
theorem RU.noTup {ι : Nat → Addr} {m : Nat} {a : Addr} {o : AO} {u : HO} (r : RU K G ι m H a o u) : NoTup u := by
  induction r with
  | lst _ => trivial
  | dct _ => trivial
  | dtt _ => trivial
  | ins _ _ => trivial
  | lck _ ih => exact ih
  | exo _ _ e => subst e; trivial
  | xdc _ e => subst e; trivial
theorem sqT_upd_old {p : Addr} {u w : HO} (hp : H p = some w) (nt : NoTup w) : ∀ a vs, SqT K H a vs → SqT K (upd H p u) a vs := fun a vs h => by
  rcases h with (h | ⟨o, h⟩) | h
  · refine .inl (.inl ?_)
    rw [upd_ne fun e => ?_]; exact h
    rw [e, hp] at h; cases h; exact nt
  · refine .inl (.inr ⟨o, ?_⟩)
    rw [upd_ne fun e => ?_]; exact h
    rw [e, hp] at h; cases h; exact nt
  · exact .inr h
theorem Le.old {ι : Nat → Addr} {m i : Nat} {u w : HO} (hi : i < m) (hp : H (ι i) = some w) (nt : NoTup w) : Le K ι m H ι m (upd H (ι i) u) :=
  ⟨Nat.le_refl _, fun _ _ => rfl, sqT_upd_old hp nt, fun a z h hn => by rw [upd_ne (Ne.symm (hn i hi))]; exact h, fun n h1 h2 => absurd h1 (Nat.not_le_of_lt h2), dom_upd⟩
/-- a numbered object is changed -/
theorem RH.set (r : RH K G ι S H) {i : Nat} {w u : HO} {o : AO} (h : i < S.n) (hw : H (ι i) = some w) (nt : NoTup w) (ru : RU K G ι S.n H (ι i) o u) : RH K G ι (S.set i o) (upd H (ι i) u) := by
  refine ⟨r.inj, fun j hj => ?_⟩
  by_cases c : j = i
  · subst c
    exact ⟨o, u, Hs.get_set_self h, upd_same, ru.mono (Le.old h hw nt)⟩
  · obtain ⟨o', w', e1, e2, e3⟩ := r.all j hj
    refine ⟨o', w', (Hs.get_set_ne c).trans e1, ?_, e3.mono (Le.old h hw nt)⟩
    rw [upd_ne fun e => c (r.inj j i hj h e)]; exact e2
end

/-- an address that is not numbered -/
theorem RH.adopt {K : PySem.W.Frag} {G : Gx} {ι : Nat → Addr} {S : Hs} {H : Hp} (r : RH K G ι S H) {p : Addr} {u : HO} {o : AO} (hp : H p = some u) (hn : ∀ k, k < S.n → ι k ≠ p) (ru : RU K G ι S.n H p o u) : RH K G (ext ι S.n p) (S.push o) H := by
  have le : Lw K ι S.n H (ext ι S.n p) (S.push o).n H := ⟨Nat.le_succ _, fun _ h => ext_old h, fun _ _ h => h⟩
  refine ⟨fun i j hi hj e => ?_, fun i h => ?_⟩
  · rw [Hs.push_n] at hi hj
    by_cases ci : i = S.n
    · by_cases cj : j = S.n
      · omega
      · rw [ci, ext_new, ext_old (by omega)] at e
        exact absurd e.symm (hn j (by omega))
    · by_cases cj : j = S.n
      · rw [cj, ext_new, ext_old (by omega)] at e
        exact absurd e (hn i (by omega))
      · rw [ext_old (by omega), ext_old (by omega)] at e
        exact r.inj i j (by omega) (by omega) e
  · rw [Hs.push_n] at h
    by_cases ci : i = S.n
    · subst ci
      refine ⟨o, u, Hs.get_push_self _ _, by rw [ext_new]; exact hp, ?_⟩
      rw [ext_new]; exact ru.monoW le
    · obtain ⟨o', w, e1, e2, e3⟩ := r.all i (by omega)
      rw [ext_old (by omega)]
      exact ⟨o', w, Hs.get_push_of e1, e2, e3.monoW le⟩
theorem Le.adopt {K : PySem.W.Frag} {ι1 ι : Nat → Addr} {m1 m : Nat} {H1 H : Hp} (le : Le K ι1 m1 H1 ι m H) {p : Addr} (hp : H1 p = none) : Le K ι1 m1 H1 (ext ι m p) (m + 1) H :=
  ⟨Nat.le_succ_of_le le.sz, fun n h => by rw [ext_old (Nat.lt_of_lt_of_le h le.sz)]; exact le.ag n h, le.tp, le.fr, fun n h1 h2 => by
    by_cases c : n = m
    · rw [c, ext_new]; exact hp
    · rw [ext_old (by omega)]; exact le.nw n h1 (by omega), le.dom⟩
theorem Le.setD {K : PySem.W.Frag} {ι1 ι : Nat → Addr} {m1 m : Nat} {H1 H : Hp} (le : Le K ι1 m1 H1 ι m H) {p : Addr} {w u : HO} (hp : H1 p = none) (hw : H p = some w) (nt : NoTup w) : Le K ι1 m1 H1 ι m (upd H p u) :=
  ⟨le.sz, le.ag, fun a vs h => sqT_upd_old hw nt a vs (le.tp a vs h), fun a z h hn => by rw [upd_ne (ne_of_none h hp)]; exact le.fr a z h hn, le.nw, fun a h => le.dom a (dom_upd a h)⟩
theorem RH.setD {K : PySem.W.Frag} {G : Gx} {ι : Nat → Addr} {S : Hs} {H : Hp} (r : RH K G ι S H) {p : Addr} {w u : HO} (hw : H p = some w) (nt : NoTup w) (hn : ∀ k, k < S.n → ι k ≠ p) : RH K G ι S (upd H p u) := by
  have le : Lw K ι S.n H ι S.n (upd H p u) := ⟨Nat.le_refl _, fun _ _ => rfl, sqT_upd_old hw nt⟩
  refine ⟨r.inj, fun i h => ?_⟩
  obtain ⟨o, z, e1, e2, e3⟩ := r.all i h
  exact ⟨o, z, e1, by rw [upd_ne (hn i h)]; exact e2, e3.monoW le⟩

/-- slots -/
abbrev Ev := List (Option AV)
structure RE (K : PySem.W.Frag) (G : Gx) (ι : Nat → Addr) (m : Nat) (H : Hp) (ρ : Ev) (σ : L2.St) : Prop where
  at_ : ∀ (i : Nat) (x : AV), ρ[i]? = some (some x) → ∃ v, σ[i]? = some (some v) ∧ RV K G ι m H x v
  len : ρ.length = σ.length
theorem RE.mono {K : PySem.W.Frag} {G : Gx} {ι ι' : Nat → Addr} {m m' : Nat} {H H' : Hp} {ρ : Ev} {σ : L2.St} (r : RE K G ι m H ρ σ) (le : Le K ι m H ι' m' H') : RE K G ι' m' H' ρ σ :=
  ⟨fun i x e => let ⟨v, h1, h2⟩ := r.at_ i x e; ⟨v, h1, h2.mono le⟩, r.len⟩
theorem RE.monoW {K : PySem.W.Frag} {G : Gx} {ι ι' : Nat → Addr} {m m' : Nat} {H H' : Hp} {ρ : Ev} {σ : L2.St} (r : RE K G ι m H ρ σ) (le : Lw K ι m H ι' m' H') : RE K G ι' m' H' ρ σ :=
  ⟨fun i x e => let ⟨v, h1, h2⟩ := r.at_ i x e; ⟨v, h1, h2.monoW le⟩, r.len⟩
theorem Lw.trans {K : PySem.W.Frag} {ι ι1 ι2 : Nat → Addr} {m m1 m2 : Nat} {H H1 H2 : Hp} (a : Lw K ι m H ι1 m1 H1) (b : Lw K ι1 m1 H1 ι2 m2 H2) : Lw K ι m H ι2 m2 H2 :=
  ⟨Nat.le_trans a.sz b.sz, fun n h => (b.ag n (Nat.lt_of_lt_of_le h a.sz)).trans (a.ag n h), fun x vs h => b.tp x vs (a.tp x vs h)⟩
theorem RE.set {K : PySem.W.Frag} {G : Gx} {ι : Nat → Addr} {m : Nat} {H : Hp} {ρ : Ev} {σ : L2.St} (r : RE K G ι m H ρ σ) {x : AV} {v : V} (i : Nat) (rv : RV K G ι m H x v) : RE K G ι m H (ρ.set i (some x)) (σ.set i (some v)) := by
  refine ⟨fun j y e => ?_, by rw [List.length_set, List.length_set]; exact r.len⟩
  by_cases c : j = i
  · subst c
    have hj : j < ρ.length := by
      have := (List.getElem?_eq_some_iff.mp e).1
      rwa [List.length_set] at this
    rw [List.getElem?_set_self hj] at e
    cases e
    exact ⟨v, List.getElem?_set_self (r.len ▸ hj), rv⟩
  · rw [List.getElem?_set_ne (Ne.symm c)] at e
    obtain ⟨w, h1, h2⟩ := r.at_ j y e
    exact ⟨w, by rw [List.getElem?_set_ne (Ne.symm c)]; exact h1, h2⟩
end Ab

namespace Ab
open PySem L2 PyProof.Rows
/-- a built-in base -/
structure Bs (B newId initId : String) (bmB : List Value) : Prop where
  fb : ExcBaseFacts B newId initId bmB
  sf : StoreFacts B bmB "object.__setattr__" "object"
  kx : PySem.W.KxsFacts B initId
theorem bs_VE : Bs "ValueError" "ValueError.__new__" "ValueError.__init__" [.type "ValueError", .type "Exception", .type "BaseException", .type "object"] := ⟨F.excBase_ValueError, F.store_ValueError, PySem.W.kxs_ValueError⟩
theorem bs_LE : Bs "LookupError" "LookupError.__new__" "LookupError.__init__" [.type "LookupError", .type "Exception", .type "BaseException", .type "object"] := ⟨F.excBase_LookupError, F.store_LookupError, PySem.W.kxs_LookupError⟩
/-- what the written part says of an own exception class -/
structure Xc (K : PySem.W.Frag) (C : Addr) (B newId initId : String) (bmB : List Value) : Prop where
  bs : Bs B newId initId bmB
  ini : PySem.W.excInitIn K C bmB newId = true
  ovr : PySem.W.excOver K C bmB = true
  sup : PySem.W.ks_superIn K C C "__init__" = some (some (.builtin initId))
  sub : PySem.W.subIn K (.ref C) (.type B) = some true
  sa : PySem.W.findIn K (.ref C) "__setattr__" = some (some (.builtin "object.__setattr__"))
  exC : PySem.W.subIn K (.ref C) (.type "BaseException") = some true
  kC : PySem.W.keepIn K (.ref C) = true
  ga : PySem.W.findIn K (.ref C) "__getattribute__" = some (some (.builtin "BaseException.__getattribute__"))
  gg : PySem.W.findIn K (.ref C) "__getattr__" = some none
  hd : PySem.W.hasDictIn K C = true
  ka : PySem.W.findIn K (.ref C) "__class__" = some (some (.builtin "object.__class__"))
  mo : PySem.W.mroIn K C (.type "object") = some true
  mc : PySem.W.mroIn K C (.ref C) = some true
section
variable {prog : Program} {w : World} {A : Around} {E : Value → Shared → Prop} {R : Result → Shared → Prop} {hp : Heap} {g : Array GenState} {d : Drawn} {t : Nat} {os : OsState} {K : PySem.W.Frag} {B newId initId : String} {bmB : List Value}
theorem x_osa0 {name : Str} {tk : Tok} {v : Value} {x C t1 : Addr} (T : Xc K C B newId initId bmB) (X : K.In hp) (hx : hp.get? x = some (PySem.W.excObj C t1 none .none)) (ha : PySem.W.findIn K (.ref C) name = some none)
    (hq : ∀ h' tk', (∀ b o, b ≠ x → hp.get? b = some o → h'.get? b = some o) → h'.get? x = some (PySem.W.excObj C t1 (some hp.objs.size) .none) → h'.Ns1 hp.objs.size (fun y => if y = name then some v else none) → R (.ok (.ret .none)) ⟨h', g, d, tk', os⟩) :
    codeAny (model prog w) A (.call (.builtin "object.__setattr__") ⟨[.ref x, .str name tk, v], []⟩) R ⟨hp, g, d, t, os⟩ := by
  refine PySem.W.osa_openX (od := none) T.bs.sf X ⟨hx, rfl, rfl, trivial⟩ T.ovr (r := none) (by unfold PySem.W.takerIn; rw [ha]; rfl) fun b => ?_
  obtain ⟨cd, hc, hd'⟩ := PySem.W.any_some T.hd
  have hxs : x ≠ hp.objs.size := Nat.ne_of_lt (Heap.lt_size hx)
  refine wpAny_bind (wpAny_pure (wpAny_bind (PySem.W.instanceDict_exc hx (PySem.W.looks_clsIn X hc) hd' ?_)))
  show wpAny _ _ (Builtin.ObjectAttr.storeInDict hp.objs.size (.str name tk) name v) _ _ _
  refine HandSPX.store_in_new ?_ ?_
  · exact ⟨_, #[], _, (Heap.get?_update_ne _ _ _ _ hxs.symm).trans (Heap.get?_push_at rfl rfl), rfl, fun e he => absurd he (by simp), fun _ => rfl⟩
  · intro h' tk' hn' hs
    refine hq h' tk' (fun b o hb ho => ?_) ?_ hn'
    · exact (hs.2 b (Nat.ne_of_lt (Heap.lt_size ho))).trans ((Heap.get?_update_ne _ _ _ _ hb).trans (Heap.get?_push_of_some _ ho))
    · exact (hs.2 x hxs).trans (Heap.get?_update_self _ (Heap.get?_push_of_some _ hx) rfl)
theorem x_osa1 {name : Str} {tk : Tok} {v : Value} {x C t1 dx : Addr} {m0 : Str → Option Value} {nl : List Str} (T : Xc K C B newId initId bmB) (X : K.In hp) (hx : hp.get? x = some (PySem.W.excObj C t1 (some dx) .none)) (hns : hp.Ns1 dx m0) (hw : Within m0 nl) (hz : nl.length ≤ 1000)
    (ha : PySem.W.findIn K (.ref C) name = some none)
    (hq : ∀ h' tk', (∀ b o, b ≠ dx → hp.get? b = some o → h'.get? b = some o) → h'.Ns1 dx (fun y => if y = name then some v else m0 y) → R (.ok (.ret .none)) ⟨h', g, d, tk', os⟩) :
    codeAny (model prog w) A (.call (.builtin "object.__setattr__") ⟨[.ref x, .str name tk, v], []⟩) R ⟨hp, g, d, t, os⟩ := by
  obtain ⟨oD, esD, epD, hoD, hdD, _⟩ := hns.count hw
  refine PySem.W.osa_openX (od := some oD) T.bs.sf X ⟨hx, rfl, rfl, hoD⟩ T.ovr (r := none) (by unfold PySem.W.takerIn; rw [ha]; rfl) fun b => ?_
  obtain ⟨cd, hc, hd'⟩ := PySem.W.any_some T.hd
  refine wpAny_bind (wpAny_pure (wpAny_bind (wpAny_bind (wpAny_loadPart hx (wpAny_bind ((PySem.W.looks_clsIn X hc).here ?_))))))
  rw [hd']
  refine wpAny_pure (a := some dx) ?_
  exact OEX.store_in_old hns hw hz fun h' tk' hn' hs => hq h' tk' (fun b o hb ho => (hs.2 b hb).trans ho) hn'
end
section
variable {X : Cx} {pins : List (Addr × Obj)} {σ : L2.St} {H : Hp} {s : Shared} {a C dx : Addr} {f : Str} {y : V} {u : Value} {fs : List (Str × V)} {Q : Unit → Shared → Prop} {E : Value → Shared → Prop} {A : Around} {B newId initId : String} {bmB : List Value}
theorem x_set0 (T : Xc X.K C B newId initId bmB) (I : Inv X pins σ H s) (e : H a = some (exo a C none)) (hno : PySem.W.findIn X.K (.ref C) f = some none) (ry : RelV y u)
    (h : ∀ dx s', H dx = none → dx ≠ a → Inv X pins σ (upd (upd H dx (exd dx [(f, y)])) a (exo a C (some dx))) s' → Q () s') : wpAny (model X.prog X.w) A (setAttr (.ref a) f u) Q E s := by
  obtain ⟨t1, ho⟩ := exo_at I.hok e
  obtain ⟨hp, g, d, t, os⟩ := s
  refine PySem.W.set_plain I.kIn (ox := PySem.W.excObj C t1 none .none) (od := none) ⟨ho, rfl, rfl, trivial⟩ T.sa ?_
  refine x_osa0 T I.kIn ho hno fun h' tk' k hx hn => ?_
  have hnd : H hp.objs.size = none := I.hok.fresh (Nat.le_refl _)
  have hne : hp.objs.size ≠ a := Nat.ne_of_gt (Heap.lt_size ho)
  obtain ⟨oD, esD, epD, hoD, hdD, hrD⟩ := id hn
  have fr : oD.isFreed = false := by
    obtain ⟨c1, c2, c3, c4⟩ := oD
    dsimp only at hdD
    subst hdD
    rfl
  have hI : (hp.push oD).get? hp.objs.size = some oD := Heap.get?_push_size hp fr
  have nI : (hp.push oD).Ns1 hp.objs.size (fun y => if y = f then some u else none) := ⟨oD, esD, epD, hI, hdD, hrD⟩
  have J1 : Inv X pins σ (upd H hp.objs.size (exd hp.objs.size [(f, y)])) ⟨hp.push oD, g, d, tk', os⟩ :=
    Inv.laid (t' := tk') I (fun _ _ z => Heap.get?_push_of_some _ z) (Nat.le_refl _) (exd_ok nI (relO_put (fs := []) ry fun _ => True.intro))
  have ea : upd H hp.objs.size (exd hp.objs.size [(f, y)]) a = some (exo a C none) := by rw [upd_ne (Ne.symm hne)]; exact e
  refine h hp.objs.size ⟨h', g, d, tk', os⟩ hnd hne (Inv.write (s := ⟨hp.push oD, g, d, tk', os⟩) (h' := h') (t' := tk') (x := a) (e := a) J1 (by rw [ea]; exact True.intro) (.inl rfl) (fun b o hb z => ?_) ⟨_, hx⟩ (exo_ok hx))
  have z' : (hp.push oD).get? b = some o := z
  by_cases c : b = hp.objs.size
  · rw [c, hI] at z'
    cases z'
    rw [c]
    exact hoD
  · rw [Heap.get?_push_ne _ _ _ c] at z'
    exact k b o hb z'
theorem x_set1 (T : Xc X.K C B newId initId bmB) (I : Inv X pins σ H s) (e : H a = some (exo a C (some dx))) (ed : H dx = some (exd dx fs)) (hl : fs.length ≤ 900) (hno : PySem.W.findIn X.K (.ref C) f = some none) (ry : RelV y u)
    (h : ∀ s', Inv X pins σ (upd H dx (exd dx ((f, y) :: fs))) s' → Q () s') : wpAny (model X.prog X.w) A (setAttr (.ref a) f u) Q E s := by
  obtain ⟨t1, ho⟩ := exo_at I.hok e
  obtain ⟨mA, hns, rel⟩ := exd_at I.hok ed
  have hw := within_of rel
  obtain ⟨hp, g, d, t, os⟩ := s
  obtain ⟨oD, _, _, hoD, _, _⟩ := hns.count hw
  refine PySem.W.set_plain I.kIn (ox := PySem.W.excObj C t1 (some dx) .none) (od := some oD) ⟨ho, rfl, rfl, hoD⟩ T.sa ?_
  refine x_osa1 T I.kIn ho hns hw (by rw [List.length_map]; omega) hno fun h' tk' k hn => ?_
  have hd : ∃ o, h'.get? dx = some o := by
    obtain ⟨o, _, _, e', _⟩ := hn
    exact ⟨o, e'⟩
  exact h _ (Inv.write (t' := tk') (x := dx) (e := dx) I (by rw [ed]; exact True.intro) (.inl rfl) k hd (exd_ok hn (relO_put ry rel)))
/-- a field is read -/
theorem x_get {b : Bool} {Q : Value → Shared → Prop} {v : V} (T : Xc X.K C B newId initId bmB) (I : Inv X pins σ H s) (e : H a = some (exo a C (some dx))) (ed : H dx = some (exd dx fs)) (hno : PySem.W.findIn X.K (.ref C) f = some none) (l : fs.lookup f = some v)
    (h : ∀ u s', RelV v u → Inv X pins σ H s' → Q u s') : wpAny (model X.prog X.w) A (getAttr (.ref a) f b) Q E s := by
  obtain ⟨t1, ho⟩ := exo_at I.hok e
  obtain ⟨mA, hns, rel⟩ := exd_at I.hok ed
  obtain ⟨od, hod, hl⟩ := lookIn_ns hns
  obtain ⟨u, hu, ru⟩ := RelO.some_of (v := v) (o := mA f) (by rw [← l]; exact rel f)
  have J : PySem.W.InstAt s.heap a (PySem.W.excObj C t1 (some dx) .none) C (some od) := ⟨ho, rfl, rfl, hod⟩
  exact HandSPX.exc_get I.kIn J T.ga T.gg T.exC (PySem.W.findObj_own T.hd hno rfl (by rw [hl, hu])) (handed_of ru) (h u _ ru (I.tok _))
/-- isinstance(e, c) -/
theorem x_isi {d : Option Addr} {c : Value} {bb : Bool} {Q : Value → Shared → Prop} (T : Xc X.K C B newId initId bmB) (I : Inv X pins σ H s) (e : H a = some (exo a C d)) (hdd : ∀ dx, d = some dx → ∃ fs, H dx = some (exd dx fs)) (obg : PySem.W.specialIn X.K (.builtin "object.__class__") "__get__" = some (some (.builtin "getset_descriptor.__get__")) ∧ PySem.W.takesIn X.K (.builtin "object.__class__") = some true)
    (hk : PySem.W.kitOne X.K (.ref C) c = some bb) (h : ∀ s', Inv X pins σ H s' → Q (.bool bb) s') : wpAny (model X.prog X.w) A (call (.builtin "isinstance") [.ref a, c]) Q E s := by
  obtain ⟨t1, ho⟩ := exo_at I.hok e
  have hcl : (PySem.W.clsIn X.K C).isSome = true := by
    obtain ⟨cd, hc, _⟩ := PySem.W.any_some T.hd
    rw [hc]; rfl
  have hJ : ∃ od, PySem.W.InstAt s.heap a (PySem.W.excObj C t1 d .none) C od := by
    cases d with
    | none => exact ⟨none, ho, rfl, rfl, trivial⟩
    | some dx =>
      obtain ⟨fs, ed⟩ := hdd dx rfl
      obtain ⟨mA, hns, rel⟩ := exd_at I.hok ed
      obtain ⟨oD, _, _, hoD, _, _⟩ := hns.count (within_of rel)
      exact ⟨some oD, ho, rfl, rfl, hoD⟩
  obtain ⟨od, J⟩ := hJ
  exact PySem.W.kia_one (PySem.W.kitx_exc hcl T.ga T.gg T.exC T.ka obg.1 obg.2 T.mo) I.kIn J hk (fun z => nomatch z) fun tk => h _ (I.kept (t' := tk) fun _ _ z => z)
end
end Ab

namespace Ab
open PySem L2

/-- built-in functions and types that are called by name -/
inductive Bf where
  | len | all | any | sum | tuple | list | int | repr | max | min | str | sorted | dict | abs | lenset | lrng
/-- built-in types -/
inductive Bty where
  | non | bool | int | str | tuple | list | dict | verr | lerr
  deriving DecidableEq
/-- what isinstance asks for -/
inductive Ty where
  | b (t : Bty)
  | c (k : Nat)
/-- methods of built-in types -/
inductive Bm where
  | append | pop | index | count | extend | insert | join | get | clear | strip | items | keys | values | update | setd | split | starts
mutual
/-- expressions -/
inductive E where
  | cst (v : AV)
  | var (i : Nat)
  | gc (k : Nat)
  | gf (k : Nat)
  | gk (k : Nat)
  | ty (s : String)
  | bin (op : Operator) (a b : E)
  | neg (a : E)
  | not (a : E)
  | and (a b : E)
  | or (a b : E)
  | ite (c a b : E)
  | cmp (op : CmpOp) (a b : E)
  | cmp2 (op op' : CmpOp) (a b c : E)
  | tup (es : List E)
  | lst (es : List E)
  | star (e : E)
  | dct (ks vs : List E)
  | idx (a i : E)
  | slc (a : E) (lo hi : Option E)
  | attr (a : E) (f : Nat)
  | call (k : Nat) (es : List E)
  | make (k : Nat) (es : List E) (ks : List E)
  | blt (f : Bf) (es : List E)
  | isi (a : E) (many : Bool) (ts : List Ty)
  | meth (o : E) (f : Nat) (b : Option Bm) (es : List E)
  | sup (D k : Nat) (es : List E)
  | lc (elt : E) (tg : Tg) (src : Src) (ifs : List E) (own : List Nat)
  | lc2 (elt : E) (tg : Tg) (src : Src) (ifs : List E) (tg1 : Tg) (src1 : Src) (ifs1 : List E) (own own1 : List Nat)
  | dc (ke ve : E) (tg : Tg) (src : Src) (ifs : List E) (own : List Nat)
  | fmt (r : Bool) (a : E)
  | jn (es : List E)
  | xsup (D : Nat) (es : List E)
  | xmk (k : Nat) (es : List E)
  | bad
/-- what is walked -/
inductive Src where
  | e (a : E)
  | rng (lo : Option E) (hi : E)
  | enm (a : E)
  | zip (a b : E)
/-- targets -/
inductive Tg where
  | nm (i : Nat)
  | tp (ts : List Tg)
  | fld (o : E) (f : Nat)
  | ix (o i : E)
end

/-- statements -/
inductive St where
  | asg (t : Tg) (e : E)
  | aug (i : Nat) (op : Operator) (e : E)
  | expr (e : E)
  | ife (c : E) (a b : List St)
  | for_ (t : Tg) (s : Src) (b : List St)
  | whl (c : E) (b : List St)
  | ret (e : Option E)
  | pass
  | brk
  | cnt
  | bad

def toDs (f : AV → Option PyData) : List AV → Option (List PyData)
  | [] => some []
  | x :: xs => match f x with
    | some d => (match toDs f xs with
      | some ds => some (d :: ds)
      | none => none)
    | none => none
/-- a list that is read -/
def AO.seq : AO → Option (List AV)
  | .lst xs => some xs
  | .lck (.lst xs) => some xs
  | _ => none
def toD : Nat → Hs → AV → Option PyData
  | 0, _, _ => none
  | n + 1, S, v => match v with
    | .non => some .none
    | .bl b => some (.bool b)
    | .int i => some (.int i)
    | .str x => some (.str x)
    | .tup xs => (match toDs (toD n S) xs with
      | some ds => some (.tuple ds)
      | none => none)
    | .ref r => (match S.get r with
      | some o => (match o.seq with
        | some xs => (match toDs (toD n S) xs with
          | some ds => some (.list ds)
          | none => none)
        | none => none)
      | none => none)
    | _ => none
def eqD (S : Hs) (x y : AV) : Option Bool := match toD 66 S x, toD 66 S y with
  | some d, some e => if SeqAt.shaped d && SeqAt.shaped e then some (PyData.eqv d e) else none
  | _, _ => none
def eqA (S : Hs) (x y : AV) : Option Bool := match x, y with
  | .str a, .str b => some (a == b)
  | _, _ => eqD S x y

def alloc (S : Hs) (o : AO) : Rs AV := .ok (.ref S.n) (S.push o)
def mulOk (i j : Int) : Bool := decide ((-(2 ^ 64) < i ∧ i < 2 ^ 64) ∨ (-(2 ^ 64) < j ∧ j < 2 ^ 64))
def binI (op : Operator) (i j : Int) : Option Int := match op with
  | .Add => some (i + j)
  | .Sub => some (i - j)
  | .Mult => if mulOk i j then some (i * j) else none
  | .Mod => if j ≠ 0 then some (i.fmod j) else none
  | .FloorDiv => if j ≠ 0 ∧ j.natAbs < 1073741824 then some (i.fdiv j) else none
  | .Pow => if 0 ≤ j ∧ j ≤ 1000000 ∧ i.natAbs < 2 ^ 64 then some (i ^ j.toNat) else none
  | _ => none
/-- a list object as it may be joined -/
def lstOf (S : Hs) : AV → Option (List AV)
  | .ref r => match S.get r with
    | some (.lst xs) => some xs
    | _ => none
  | _ => none
/-- a list or tuple that is read -/
def seqOf (S : Hs) : AV → Option (List AV)
  | .ref r => match S.get r with
    | some o => o.seq
    | none => none
  | .tup xs => some xs
  | _ => none
def okLen (n : Nat) : Bool := decide (n ≤ sizeLine)
def catA (S : Hs) (op : Operator) (a b : Option (List AV)) : Rs AV := match op, a, b with
  | .Add, some xs, some ys => if okLen (xs.length + ys.length) then alloc S (.lst (xs ++ ys)) else .bad
  | _, _, _ => .bad
def repA (S : Hs) (op : Operator) (a : Option (List AV)) (k : Int) : Rs AV := match op, a with
  | .Mult, some xs => if (decide (0 ≤ k) && decide (k ≤ 1000) && decide (xs.length ≤ 1000)) = true then alloc S (.lst (List.replicate k.toNat xs).flatten) else .bad
  | _, _ => .bad
def isNon : AV → Bool
  | .non => true
  | _ => false
/-- a text over and over -/
def repS (a : Str) (k : Int) : Str := ⟨(List.replicate k.toNat a.cps).foldl (· ++ ·) #[]⟩
def binA (op : Operator) (x y : AV) (S : Hs) : Rs AV := match x, y with
  | .int i, .int j => (match binI op i j with
    | some k => .ok (.int k) S
    | none => .bad)
  | .str a, .str b => (match op with
    | .Add => if okLen (a.length + b.length) then .ok (.str (a ++ b)) S else .bad
    | _ => .bad)
  | .str a, .int k => (match op with
    | .Mult => if (decide (2 ≤ k) && decide (k ≤ 1000) && decide (1 ≤ a.length) && decide (a.length ≤ 1000) && okLen (repS a k).length) = true then .ok (.str (repS a k)) S else .bad
    | _ => .bad)
  | .tup xs, .tup ys => (match op with
    | .Add => if okLen (xs.length + ys.length) then .ok (.tup (xs ++ ys)) S else .bad
    | _ => .bad)
  | .ref r, .ref q => catA S op (lstOf S (.ref r)) (lstOf S (.ref q))
  | .ref r, .int k => repA S op (lstOf S (.ref r)) k
  | .tup xs, .int k => (match op with
    | .Mult => if (!xs.isEmpty && decide (2 ≤ k) && decide (k ≤ 1000) && decide (xs.length ≤ 1000)) = true then .ok (.tup (List.replicate k.toNat xs).flatten) S else .bad
    | _ => .bad)
  | _, _ => .bad
def flat : AV → Bool
  | .non | .bl _ | .int _ | .str _ => true
  | _ => false
def eqF : AV → AV → Bool
  | .non, .non => true
  | .bl a, .bl b => a == b
  | .bl a, .int b => (if a then 1 else 0) == b
  | .int a, .bl b => a == (if b then 1 else 0)
  | .int a, .int b => a == b
  | .str a, .str b => a == b
  | _, _ => false
def keyOf : AV → Option Key
  | .int i => some (.inl i)
  | .str x => some (.inr x)
  | _ => none
def hasK (kvs : List (Key × AV)) (k : Key) : Bool := kvs.any fun p => decide (p.1 = k)
def getK (kvs : List (Key × AV)) (k : Key) : Option AV := (kvs.find? fun p => decide (p.1 = k)).map (·.2)
/-- a dict that is read -/
def AO.dict : AO → Option (List (Key × AV))
  | .dct kvs => some kvs
  | .lck (.dct kvs) => some kvs
  | _ => none
def dictOf (S : Hs) : AV → Option (List (Key × AV))
  | .ref r => match S.get r with
    | some o => o.dict
    | none => none
  | _ => none
def inA (x y : AV) (S : Hs) : Option Bool := match y with
  | .str t => (match x with
    | .str s => some (!(Builtin.Str.occurrences t s 0 t.length 1).isEmpty)
    | _ => none)
  | _ => (match seqOf S y with
    | some ys => if flat x && ys.all flat then some (ys.any fun z => eqF z x) else none
    | none => (match dictOf S y, keyOf x with
      | some kvs, some k => some (getK kvs k).isSome
      | _, _ => none))
def cmpA (op : CmpOp) (x y : AV) (S : Hs) : Option Bool := match op with
  | .Eq => eqA S x y
  | .NotEq => (eqA S x y).map (!·)
  | .Lt => (match x, y with
    | .int i, .int j => some (decide (i < j))
    | _, _ => none)
  | .LtE => (match x, y with
    | .int i, .int j => some (decide (i ≤ j))
    | _, _ => none)
  | .Gt => (match x, y with
    | .int i, .int j => some (decide (j < i))
    | _, _ => none)
  | .GtE => (match x, y with
    | .int i, .int j => some (decide (j ≤ i))
    | _, _ => none)
  | .In => inA x y S
  | .NotIn => (inA x y S).map (!·)
  | .Is => (match y with
    | .non => some (isNon x)
    | _ => none)
  | .IsNot => (match y with
    | .non => some (!isNon x)
    | _ => none)
def rb (S : Hs) : Option Bool → Rs AV
  | some b => .ok (.bl b) S
  | none => .bad

def evL (f : E → Hs → Rs AV) : List E → Hs → Rs (List AV)
  | [], S => .ok [] S
  | e :: es, S => (f e S).bind fun v S1 => (evL f es S1).bind fun vs S2 => .ok (v :: vs) S2

def idxA (x y : AV) (S : Hs) : Rs AV := match seqOf S x, y with
  | some xs, .int i => (match atI xs i with
    | some v => .ok v S
    | none => .bad)
  | _, _ => (match dictOf S x, keyOf y with
    | some kvs, some k => (match getK kvs k with
      | some v => .ok v S
      | none => .bad)
    | _, _ => .bad)
/-- f is a field's name alone of the class k -/
def isFld (G : Gx) (k f : Nat) : Bool := match G.cls[k]? with
  | some c => c.flds.contains f
  | none => false
/-- f is a field's name alone of the exception class k -/
def isXf (G : Gx) (k f : Nat) : Bool := match G.cls[k]? with
  | some c => c.xf.contains f && decide (c.xb ≠ 0)
  | none => false
def fldA (G : Gx) (S : Hs) (x : AV) (f : Nat) : Rs AV := match x with
  | .ref r => (match S.get r with
    | some (.ins k fs) => (match fs.lookup f with
      | some v => if isFld G k f then .ok v S else .bad
      | none => .bad)
    | some (.exo k (some n)) => (match S.get n with
      | some (.xdc fs) => (match fs.lookup f with
        | some v => if isXf G k f then .ok v S else .bad
        | none => .bad)
      | _ => .bad)
    | _ => .bad)
  | _ => .bad
end Ab

namespace Ab
open PySem L2

/-- weakest readings -/
def tW (X : Cx) (e : Expr) : TE := fun σ H Q => ∀ (pins : List (Addr × Obj)) (s : Shared), Inv X pins σ H s → wpAny (model X.prog X.w) X.A (eval e X.env) (EP X pins σ Q) X.xe s
theorem peW {X : Cx} {e : Expr} : PE X e (tW X e) := ⟨fun pins s _ _ _ I h => h pins s I⟩
theorem tW.of {X : Cx} {e : Expr} {t : TE} (p : PE X e t) {σ : L2.St} {H : Hp} {Q : VK} (h : t σ H Q) : tW X e σ H Q := fun pins s I => p.run pins s σ H Q I h
def tWt (X : Cx) (e : Expr) : TT := fun σ H Q => ∀ (pins : List (Addr × Obj)) (s : Shared), Inv X pins σ H s → wpAny (model X.prog X.w) X.A (isTrue e X.env (eval e X.env)) (TP X pins σ Q) X.xe s
theorem ptW {X : Cx} {e : Expr} : PT X e (tWt X e) := ⟨fun pins s _ _ _ I h => h pins s I⟩
theorem tWt.of {X : Cx} {e : Expr} {t : TT} (p : PT X e t) {σ : L2.St} {H : Hp} {Q : Bool → Hp → Prop} (h : t σ H Q) : tWt X e σ H Q := fun pins s I => p.run pins s σ H Q I h
def tWa (X : Cx) (es : List Expr) : TA := fun σ H Q => ∀ (pos : Pos) (pins : List (Addr × Obj)) (s : Shared), Inv X pins σ H s → wpAny (model X.prog X.w) X.A (spliced (backTo pos (starEach es X.env))) (AP X pins σ Q) X.xe s
theorem paW {X : Cx} {es : List Expr} : PA X es (tWa X es) := ⟨fun pos pins s _ _ _ I h => h pos pins s I⟩
theorem tWa.of {X : Cx} {es : List Expr} {t : TA} (p : PA X es t) {σ : L2.St} {H : Hp} {Q : List V → Hp → Prop} (h : t σ H Q) : tWa X es σ H Q := fun pos pins s I => p.run pos pins s σ H Q I h
def tWs (X : Cx) (st : Stmt) : TS := fun D σ H => ∀ (pins : List (Addr × Obj)) (s : Shared), Inv X pins σ H s → wpAny (model X.prog X.w) X.A (exec st X.env) (SP X pins D) X.xe s
theorem psW {X : Cx} {st : Stmt} : PS X st (tWs X st) := ⟨fun pins s _ _ _ I h => h pins s I⟩
theorem tWs.of {X : Cx} {st : Stmt} {t : TS} (p : PS X st t) {σ : L2.St} {H : Hp} {D : Ends} (h : t D σ H) : tWs X st D σ H := fun pins s I => p.run pins s σ H D I h
def tWss (X : Cx) (st : List Stmt) : TS := fun D σ H => ∀ (pins : List (Addr × Obj)) (s : Shared), Inv X pins σ H s → wpAny (model X.prog X.w) X.A (execs st X.env) (SP X pins D) X.xe s
theorem pssW {X : Cx} {st : List Stmt} : PSs X st (tWss X st) := ⟨fun pins s _ _ _ I h => h pins s I⟩
theorem tWss.of {X : Cx} {st : List Stmt} {t : TS} (p : PSs X st t) {σ : L2.St} {H : Hp} {D : Ends} (h : t D σ H) : tWss X st D σ H := fun pins s I => p.run pins s σ H D I h
/-- an operator by values -/
def opW (X : Cx) (f : Value → Value → Sem Value) : R2 := fun x y H Q => ∀ (pins : List (Addr × Obj)) (s : Shared) (σ : L2.St) (v u : Value), Inv X pins σ H s → RelV x v → RelV y u → wpAny (model X.prog X.w) X.A (f v u) (EP X pins σ Q) X.xe s
theorem oprW {X : Cx} {f : Value → Value → Sem Value} : OpR X f (opW X f) := fun pins s σ H x y v u Q I rx ry h => h pins s σ v u I rx ry
theorem opW.of {X : Cx} {f : Value → Value → Sem Value} {r : R2} (p : OpR X f r) {x y : V} {H : Hp} {Q : VK} (h : r x y H Q) : opW X f x y H Q := fun pins s σ v u I rx ry => p pins s σ H x y v u Q I rx ry h

/-- an exception of the interpreter as the layer has it -/
structure RX (K : PySem.W.Frag) (G : Gx) (ι : Nat → Addr) (m : Nat) (H : Hp) (x : AX) (cls : Value) (d : Option Addr) : Prop where
  cl : ∃ c, G.cls[x.c]? = some c ∧ cls = .ref (He.ga K c.name)
  fs : x.fs ≠ [] → ∃ dd ws, d = some dd ∧ H dd = some (.xd ws) ∧ RFs K G ι m H x.fs ws

abbrev Rl (α β : Type) := (Nat → Addr) → Nat → Hp → α → β → Prop
/-- what an end of the interpreter asks -/
def Aft (K : PySem.W.Frag) (G : Gx) {α β : Type} (R : Rl α β) (Q : β → Hp → Prop) (W : Value → Option Addr → Hp → Prop) (ι : Nat → Addr) (S : Hs) (H : Hp) (r : Rs α) : Prop := match r with
  | .ok v S' => ∀ ι' H' w, RH K G ι' S' H' → Le K ι S.n H ι' S'.n H' → R ι' S'.n H' v w → Q w H'
  | .exc x S' => ∀ ι' H' c d, RH K G ι' S' H' → Le K ι S.n H ι' S'.n H' → RX K G ι' S'.n H' x c d → W c d H'
  | .bad => False
section
variable {K : PySem.W.Frag} {G : Gx} {α β γ δ : Type} {R : Rl α β} {Ra : Rl γ δ} {Q : β → Hp → Prop} {Q1 : δ → Hp → Prop} {W : Value → Option Addr → Hp → Prop} {ι ι1 : Nat → Addr} {S S1 : Hs} {H H1 : Hp}
theorem Aft.shift {r : Rs α} (h : Aft K G R Q W ι S H r) (le : Le K ι S.n H ι1 S1.n H1) : Aft K G R Q W ι1 S1 H1 r := by
  cases r with
  | ok v S' => exact fun ι' H' w rh le' rv => h ι' H' w rh (le.trans le') rv
  | exc x S' => exact fun ι' H' c d rh le' rx => h ι' H' c d rh (le.trans le') rx
  | bad => exact h
theorem Aft.bind {r : Rs γ} {f : γ → Hs → Rs α} (h : Aft K G R Q W ι S H (r.bind f))
    (k : ∀ v S1, r = .ok v S1 → ∀ ι1 H1 w, RH K G ι1 S1 H1 → Le K ι S.n H ι1 S1.n H1 → Ra ι1 S1.n H1 v w → Aft K G R Q W ι1 S1 H1 (f v S1) → Q1 w H1) : Aft K G Ra Q1 W ι S H r := by
  cases r with
  | ok v S' => exact fun ι' H' w rh le rv => k v S' rfl ι' H' w rh le rv (Aft.shift h le)
  | exc x S' => exact h
  | bad => exact h
theorem Aft.now {v : α} {w : β} (h : Aft K G R Q W ι S H (.ok v S)) (rh : RH K G ι S H) (rv : R ι S.n H v w) : Q w H := h ι H w rh Le.refl rv
end

section
variable {K : PySem.W.Frag} {G : Gx} {ι : Nat → Addr} {S : Hs} {H : Hp}
theorem seq_rel {o : AO} {xs : List AV} {a : Addr} {u : HO} {m : Nat} (e : o.seq = some xs) {b : Addr} (hu : H a = some u) (r : RU K G ι m H b o u) : ∃ vs, SqL K H a vs ∧ RVs K G ι m H xs vs := by
  cases r with
  | lst r => cases e; exact ⟨_, SqL.of hu, r⟩
  | dct r => cases e
  | dtt r => cases e
  | ins _ r => cases e
  | exo _ _ _ => cases e
  | xdc _ _ => cases e
  | lck r =>
    cases r with
    | exo _ _ _ => cases e
    | xdc _ _ => cases e
    | lst r => cases e; exact ⟨_, .inl (.inr ⟨_, hu⟩), r⟩
    | dct r => cases e
    | dtt r => cases e
    | ins _ r => cases e
    | lck r => cases e
theorem seqOf_rel (rh : RH K G ι S H) {x : AV} {w : V} (r : RV K G ι S.n H x w) {xs : List AV} (e : seqOf S x = some xs) : ∃ a vs, w = .ref a ∧ (SqL K H a vs ∨ SqT K H a vs) ∧ RVs K G ι S.n H xs vs := by
  cases r with
  | tup h t => cases e; exact ⟨_, _, rfl, .inr h, t⟩
  | ref h =>
    rename_i n
    have e1 : (match S.get n with | some o => o.seq | none => none) = some xs := e
    cases hg : S.get n with
    | none => rw [hg] at e1; cases e1
    | some o =>
      rw [hg] at e1
      obtain ⟨u, h1, h2⟩ := rh.obj hg
      obtain ⟨vs, h3, h4⟩ := seq_rel e1 h1 h2
      exact ⟨_, vs, rfl, .inl h3, h4⟩
  | _ => cases e
theorem lstOf_rel (rh : RH K G ι S H) {n : Nat} {xs : List AV} (e : lstOf S (.ref n) = some xs) : ∃ vs, n < S.n ∧ S.get n = some (.lst xs) ∧ H (ι n) = some (.lst vs) ∧ RVs K G ι S.n H xs vs := by
  have e1 : (match S.get n with | some (.lst xs) => some xs | _ => none) = some xs := e
  cases hg : S.get n with
  | none => rw [hg] at e1; cases e1
  | some o =>
    rw [hg] at e1
    obtain ⟨u, h1, h2⟩ := rh.obj hg
    cases h2 with
    | lst r => cases e1; exact ⟨_, Hs.lt_of_get hg, rfl, h1, r⟩
    | _ => cases e1
/-- data -/
theorem toDs_rel {f : AV → Option PyData} (hf : ∀ x w d, RV K G ι S.n H x w → f x = some d → Dp K H w d) : ∀ {xs : List AV} {vs : List V} {ds : List PyData}, RVs K G ι S.n H xs vs → toDs f xs = some ds → DpAll K H vs ds
  | _, _, _, .nil, e => by cases e; exact .nil
  | _, _, _, .cons (x := x) (xs := xs) r t, e => by
    unfold toDs at e
    cases h1 : f x with
    | none => rw [h1] at e; cases e
    | some d =>
      cases h2 : toDs f xs with
      | none => rw [h1, h2] at e; cases e
      | some ds =>
        rw [h1, h2] at e; cases e
        exact .cons (hf _ _ _ r h1) (toDs_rel hf t h2)
theorem toD_rel (rh : RH K G ι S H) : ∀ (n : Nat) (x : AV) (w : V) (d : PyData), RV K G ι S.n H x w → toD n S x = some d → Dp K H w d
  | 0, _, _, _, _, e => by cases e
  | n + 1, x, w, d, r, e => by
    cases r with
    | non => cases e; exact .non
    | bl b => cases e; exact .bl b
    | int i => cases e; exact .int i
    | str y => cases e; exact .str y
    | tup h t =>
      rename_i xs a vs
      have e1 : (match toDs (toD n S) xs with | some ds => some (PyData.tuple ds) | none => none) = some d := e
      cases h2 : toDs (toD n S) xs with
      | none => rw [h2] at e1; cases e1
      | some ds =>
        rw [h2] at e1; cases e1
        exact .tup h (toDs_rel (fun x w d => toD_rel rh n x w d) t h2)
    | ref h =>
      rename_i k
      have e1 : (match S.get k with
        | some o => (match o.seq with
          | some xs => (match toDs (toD n S) xs with
            | some ds => some (PyData.list ds)
            | none => none)
          | none => none)
        | none => none) = some d := e
      cases hg : S.get k with
      | none => rw [hg] at e1; cases e1
      | some o =>
        rw [hg] at e1
        cases hs : o.seq with
        | none => simp only [hs] at e1; cases e1
        | some xs =>
          simp only [hs] at e1
          obtain ⟨u, h1, h2⟩ := rh.obj hg
          obtain ⟨vs, h3, h4⟩ := seq_rel hs h1 h2
          cases h5 : toDs (toD n S) xs with
          | none => rw [h5] at e1; cases e1
          | some ds =>
            rw [h5] at e1; cases e1
            exact .lst h3 (toDs_rel (fun x w d => toD_rel rh n x w d) h4 h5)
    | ty s => cases e
    | fn h => cases e
    | cl h => cases e
end
end Ab

namespace Ab
open PySem L2

section
variable {X : Cx} {G : Gx} {ι : Nat → Addr} {S : Hs} {H : Hp} {Q : VK} {W : Value → Option Addr → Hp → Prop}
abbrev RVg (X : Cx) (G : Gx) : Rl AV V := fun ι m H x v => RV X.K G ι m H x v
abbrev RVsg (X : Cx) (G : Gx) : Rl (List AV) (List V) := fun ι m H x v => RVs X.K G ι m H x v

/-- a new list -/
theorem Aft.list {xs : List AV} {vs : List V} (h : Aft X.K G (RVg X G) Q W ι S H (alloc S (.lst xs))) (rh : RH X.K G ι S H) (r : RVs X.K G ι S.n H xs vs) : ∀ p, H p = none → Q (.ref p) (upd H p (.lst vs)) := fun p hp => by
  have rh' := rh.push (o := .lst xs) hp (.lst r)
  refine h (ext ι S.n p) _ (.ref p) rh' (Le.push hp) ?_
  have q := RV.ref (K := X.K) (G := G) (ι := ext ι S.n p) (m := (S.push (.lst xs)).n) (H := upd H p (.lst vs)) (n := S.n) (by rw [Hs.push_n]; omega)
  rw [ext_new] at q
  exact q
/-- a new tuple -/
theorem Aft.tuple {xs : List AV} {vs : List V} (h : Aft X.K G (RVg X G) Q W ι S H (.ok (.tup xs) S)) (rh : RH X.K G ι S H) (r : RVs X.K G ι S.n H xs vs) : ∀ p, H p = none → Q (.ref p) (upd H p (.tup vs)) := fun p hp =>
  h ι _ (.ref p) (rh.off hp) (Le.new hp) (.tup (SqT.of upd_same) (r.mono (Le.new hp)))

theorem binI_ok {op : Operator} {i j k : Int} (e : binI op i j = some k) (q : Q (.int k) H) : opW X (binaryOp op) (.int i) (.int j) H Q := by
  cases op with
  | Add => cases e; exact opW.of op_add ⟨i, j, rfl, rfl, q⟩
  | Sub => cases e; exact opW.of op_sub ⟨i, j, rfl, rfl, q⟩
  | Mult =>
    have e1 : (if mulOk i j then some (i * j) else none) = some k := e
    split at e1
    · rename_i c; cases e1
      exact opW.of op_mul ⟨i, j, rfl, rfl, of_decide_eq_true (p := (-(2 ^ 64) < i ∧ i < 2 ^ 64) ∨ (-(2 ^ 64) < j ∧ j < 2 ^ 64)) c, q⟩
    · cases e1
  | Mod =>
    have e1 : (if j ≠ 0 then some (i.fmod j) else none) = some k := e
    split at e1
    · rename_i c; cases e1
      exact opW.of op_modN ⟨i, j, rfl, rfl, c, q⟩
    · cases e1
  | FloorDiv =>
    have e1 : (if j ≠ 0 ∧ j.natAbs < 1073741824 then some (i.fdiv j) else none) = some k := e
    split at e1
    · rename_i c; cases e1
      exact opW.of op_fdivN ⟨i, j, rfl, rfl, c, q⟩
    · cases e1
  | Pow =>
    have e1 : (if 0 ≤ j ∧ j ≤ 1000000 ∧ i.natAbs < 2 ^ 64 then some (i ^ j.toNat) else none) = some k := e
    split at e1
    · rename_i c; cases e1
      exact opW.of op_pow ⟨i, j, rfl, rfl, c, q⟩
    · cases e1
  | _ => cases e
theorem op_repS : OpR X (binaryOp .Mult) (fun x y H Q => ∃ a k, x = .str a ∧ y = .int k ∧ 2 ≤ k ∧ k ≤ 1000 ∧ 1 ≤ a.length ∧ a.length ≤ 1000 ∧ (repS a k).length ≤ sizeLine ∧ Q (.str (repS a k)) H) := by
  intro pins s σ H x y v u Q I rx ry h
  obtain ⟨a, k, rfl, rfl, c1, c2, c3, c4, c5, q⟩ := h
  obtain ⟨t, rfl⟩ := rx
  obtain ⟨t', rfl⟩ := ry
  have n1 : ¬ k < 1 := by omega
  have n2 : ¬ ((k == 1 || a.length == 0) = true) := by
    rw [Bool.or_eq_true, beq_iff_eq, beq_iff_eq]
    omega
  have hm : a.length * k.toNat ≤ 1000 * 1000 := Nat.mul_le_mul c4 (by omega)
  refine PySem.P.mul_str ?_ (fun _ _ => ?_) (fun _ _ => ?_) ?_
  · rw [decide_eq_false (by omega : ¬ k < -(2 ^ 63 : Int)), decide_eq_false (by omega : ¬ k ≥ 2 ^ 63)]
    rfl
  · have : (1000 : Int) ≤ (2 ^ 63 - 1) / k := by
      rw [Int.le_ediv_iff_mul_le (by omega)]
      omega
    omega
  · unfold Builtin.Str.tooLong
    exact decide_eq_false (by rw [sizeLine_eq]; omega)
  · rw [if_neg n1, if_neg n2]
    exact ⟨c5, .str (repS a k), H, I.tok _, ⟨_, rfl⟩, q⟩
theorem binA_ok {op : Operator} {x y : AV} {w1 w2 : V} (rh : RH X.K G ι S H) (r1 : RV X.K G ι S.n H x w1) (r2 : RV X.K G ι S.n H y w2) (h : Aft X.K G (RVg X G) Q W ι S H (binA op x y S)) : opW X (binaryOp op) w1 w2 H Q := by
  cases r1 with
  | int i =>
    cases r2 with
    | int j =>
      have h1 : Aft X.K G (RVg X G) Q W ι S H (match binI op i j with | some k => .ok (.int k) S | none => .bad) := h
      cases e : binI op i j with
      | none => rw [e] at h1; exact h1.elim
      | some k => rw [e] at h1; exact binI_ok e (h1.now rh (.int k))
    | _ => exact h.elim
  | str a =>
    cases r2 with
    | str b =>
      cases op with
      | Add =>
        have h1 : Aft X.K G (RVg X G) Q W ι S H (if okLen (a.length + b.length) then .ok (.str (a ++ b)) S else .bad) := h
        split at h1
        · rename_i c
          exact opW.of op_add_str ⟨a, b, rfl, rfl, of_decide_eq_true c, h1.now rh (.str _)⟩
        · exact h1.elim
      | _ => exact h.elim
    | int k =>
      cases op with
      | Mult =>
        have h1 : Aft X.K G (RVg X G) Q W ι S H (if (decide (2 ≤ k) && decide (k ≤ 1000) && decide (1 ≤ a.length) && decide (a.length ≤ 1000) && okLen (repS a k).length) = true then .ok (.str (repS a k)) S else .bad) := h
        split at h1
        · rename_i c
          simp only [Bool.and_eq_true, decide_eq_true_eq] at c
          obtain ⟨⟨⟨⟨c1, c2⟩, c3⟩, c4⟩, c5⟩ := c
          exact opW.of op_repS ⟨a, k, rfl, rfl, c1, c2, c3, c4, of_decide_eq_true c5, h1.now rh (.str _)⟩
        · exact h1.elim
      | _ => exact h.elim
    | _ => exact h.elim
  | tup ha ta =>
    rename_i xs a vs
    cases r2 with
    | int k =>
      cases op with
      | Mult =>
        have h1 : Aft X.K G (RVg X G) Q W ι S H (if (!xs.isEmpty && decide (2 ≤ k) && decide (k ≤ 1000) && decide (xs.length ≤ 1000)) = true then .ok (.tup (List.replicate k.toNat xs).flatten) S else .bad) := h
        split at h1
        · rename_i c
          simp only [Bool.and_eq_true, decide_eq_true_eq] at c
          obtain ⟨⟨⟨c1, c2⟩, c3⟩, c4⟩ := c
          refine opW.of op_repT ⟨a, k, vs, rfl, rfl, ha, fun e => ?_, c2, c3, by rw [← ta.length]; exact c4, fun p hp => ?_⟩
          · subst e; cases ta; cases c1
          · have le : Le X.K ι S.n H ι S.n (upd H p (.tup (List.replicate k.toNat vs).flatten)) := Le.new hp
            have rr : ∀ m : Nat, RVs X.K G ι S.n (upd H p (.tup (List.replicate k.toNat vs).flatten)) (List.replicate m xs).flatten (List.replicate m vs).flatten := by
              intro m
              induction m with
              | zero => exact .nil
              | succ m ih =>
                rw [List.replicate_succ, List.replicate_succ, List.flatten_cons, List.flatten_cons]
                exact (ta.mono le).append ih
            exact h1 ι _ (.ref p) (rh.off hp) le (.tup (SqT.of upd_same) (rr _))
        · exact h1.elim
      | _ => exact h.elim
    | tup hb tb =>
      rename_i ys b ws
      cases op with
      | Add =>
        have h1 : Aft X.K G (RVg X G) Q W ι S H (if okLen (xs.length + ys.length) then .ok (.tup (xs ++ ys)) S else .bad) := h
        split at h1
        · rename_i c
          have c1 : vs.length + ws.length ≤ sizeLine := by rw [← ta.length, ← tb.length]; exact of_decide_eq_true c
          refine opW.of op_catA ⟨a, b, vs, ws, rfl, rfl, ha, hb, c1, fun e => ?_, fun _ e => ?_, fun _ _ => ?_⟩
          · subst e
            cases ta
            exact h1.now rh (.tup hb tb)
          · subst e
            cases tb
            rw [List.append_nil] at h1
            exact h1.now rh (.tup ha ta)
          · exact h1.tuple rh (ta.append tb)
        · exact h1.elim
      | _ => exact h.elim
    | _ => exact h.elim
  | ref hr =>
    rename_i r
    cases r2 with
    | ref hq =>
      rename_i q
      have h1 : Aft X.K G (RVg X G) Q W ι S H (catA S op (lstOf S (.ref r)) (lstOf S (.ref q))) := h
      cases op with
      | Add =>
        cases e1 : lstOf S (.ref r) with
        | none => rw [e1] at h1; exact h1.elim
        | some xs =>
          cases e2 : lstOf S (.ref q) with
          | none => rw [e1, e2] at h1; exact h1.elim
          | some ys =>
            rw [e1, e2] at h1
            obtain ⟨vs, _, _, a2, a3⟩ := lstOf_rel rh e1
            obtain ⟨ws, _, _, b2, b3⟩ := lstOf_rel rh e2
            have h2 : Aft X.K G (RVg X G) Q W ι S H (if okLen (xs.length + ys.length) then alloc S (.lst (xs ++ ys)) else .bad) := h1
            split at h2
            · rename_i c
              exact opW.of op_cat ⟨_, _, vs, ws, rfl, rfl, a2, b2, by rw [← a3.length, ← b3.length]; exact of_decide_eq_true c, h2.list rh (a3.append b3)⟩
            · exact h2.elim
      | _ => exact h1.elim
    | int k =>
      have h1 : Aft X.K G (RVg X G) Q W ι S H (repA S op (lstOf S (.ref r)) k) := h
      cases op with
      | Mult =>
        cases e1 : lstOf S (.ref r) with
        | none => rw [e1] at h1; exact h1.elim
        | some xs =>
          rw [e1] at h1
          obtain ⟨vs, _, _, a2, a3⟩ := lstOf_rel rh e1
          have h2 : Aft X.K G (RVg X G) Q W ι S H (if (decide (0 ≤ k) && decide (k ≤ 1000) && decide (xs.length ≤ 1000)) = true then alloc S (.lst (List.replicate k.toNat xs).flatten) else .bad) := h1
          split at h2
          · rename_i c
            simp only [Bool.and_eq_true, decide_eq_true_eq] at c
            obtain ⟨⟨c1, c2⟩, c3⟩ := c
            have rr : ∀ m : Nat, RVs X.K G ι S.n H (List.replicate m xs).flatten (List.replicate m vs).flatten := by
              intro m
              induction m with
              | zero => exact .nil
              | succ m ih =>
                rw [List.replicate_succ, List.replicate_succ, List.flatten_cons, List.flatten_cons]
                exact a3.append ih
            have hm : vs.length * k.toNat ≤ 1000 * 1000 := Nat.mul_le_mul (by rw [← a3.length]; exact c3) (by omega)
            exact opW.of op_rep ⟨_, k, vs, rfl, rfl, a2, by omega, by omega, by rw [sizeLine_eq]; omega, h2.list rh (rr _)⟩
          · exact h2.elim
      | _ => exact h1.elim
    | _ => exact h.elim
  | _ => cases r2 <;> exact h.elim

theorem eqD_ok {x y : AV} {w1 w2 : V} {b : Bool} (hu : X.A.units + 64 < cLine) (rh : RH X.K G ι S H) (r1 : RV X.K G ι S.n H x w1) (r2 : RV X.K G ι S.n H y w2) (e : eqD S x y = some b) :
    (Q (.bl b) H → opW X (compareOp .Eq) w1 w2 H Q) ∧ (Q (.bl (!b)) H → opW X (compareOp .NotEq) w1 w2 H Q) := by
  unfold eqD at e
  cases e1 : toD 66 S x with
  | none => rw [e1] at e; cases e
  | some d =>
    cases e2 : toD 66 S y with
    | none => rw [e1, e2] at e; cases e
    | some d' =>
      rw [e1, e2] at e
      dsimp only at e
      split at e
      · rename_i c
        cases e
        obtain ⟨c1, c2⟩ := Bool.and_eq_true_iff.mp c
        have p1 := toD_rel rh 66 x w1 d r1 e1
        have p2 := toD_rel rh 66 y w2 d' r2 e2
        exact ⟨fun q => opW.of (op_eqD hu) ⟨d, d', p1, p2, c1, c2, q⟩, fun q => opW.of (op_neD hu) ⟨d, d', p1, p2, c1, c2, q⟩⟩
      · cases e
theorem eqA_ok {x y : AV} {w1 w2 : V} {b : Bool} (hu : X.A.units + 64 < cLine) (rh : RH X.K G ι S H) (r1 : RV X.K G ι S.n H x w1) (r2 : RV X.K G ι S.n H y w2) (e : eqA S x y = some b) :
    (Q (.bl b) H → opW X (compareOp .Eq) w1 w2 H Q) ∧ (Q (.bl (!b)) H → opW X (compareOp .NotEq) w1 w2 H Q) := by
  unfold eqA at e
  split at e
  · cases r1; cases r2; cases e
    exact ⟨fun q => opW.of op_eq ⟨rfl, by rw [dec_str]; exact q⟩, fun q => opW.of op_ne ⟨rfl, by rw [dec_str]; exact q⟩⟩
  · exact eqD_ok hu rh r1 r2 e
theorem flat_rel {m : Nat} {x : AV} {w : V} (r : RV X.K G ι m H x w) (f : flat x = true) : flatV w = true := by
  cases r <;> first | rfl | cases f
theorem flats_rel {m : Nat} : ∀ {xs : List AV} {ws : List V}, RVs X.K G ι m H xs ws → xs.all flat = true → ws.all flatV = true
  | _, _, .nil, _ => rfl
  | _, _, .cons r t, f => by
    rw [List.all_cons, Bool.and_eq_true] at f
    rw [List.all_cons, flat_rel r f.1, flats_rel t f.2]; rfl
theorem eqF_rel {m : Nat} {x y : AV} {v w : V} (r1 : RV X.K G ι m H x v) (r2 : RV X.K G ι m H y w) (f1 : flat x = true) (f2 : flat y = true) : eqV v w = eqF x y := by
  cases r1 <;> first | (cases r2 <;> first | rfl | cases f2) | cases f1
theorem anyF_rel {m : Nat} {x : AV} {w : V} (r : RV X.K G ι m H x w) (f : flat x = true) : ∀ {xs : List AV} {ws : List V}, RVs X.K G ι m H xs ws → xs.all flat = true → inV w ws = xs.any fun z => eqF z x
  | _, _, .nil, _ => rfl
  | _, _, .cons r1 t, g => by
    rw [List.all_cons, Bool.and_eq_true] at g
    have ih := anyF_rel r f t g.2
    unfold inV at ih ⊢
    rw [List.any_cons, List.any_cons, ih, eqF_rel r1 r g.1 f]
theorem find_rel {m : Nat} {κ : Type} [DecidableEq κ] (k : κ) : ∀ {xs : List (κ × AV)} {ws : List (κ × V)}, RKs X.K G ι m H xs ws → (∀ v, (xs.find? fun p => decide (p.1 = k)).map (·.2) = some v → ∃ w, valV ws k = some w ∧ RV X.K G ι m H v w) ∧ ((xs.find? fun p => decide (p.1 = k)).map (·.2) = none → valV ws k = none)
  | _, _, .nil => ⟨fun v e => (nomatch e), fun _ => rfl⟩
  | _, _, .cons (k := k') (x := x) (v := w) (xs := xs) (vs := vs) r t => by
    obtain ⟨h1, h2⟩ := find_rel k t
    unfold valV at h1 h2 ⊢
    by_cases c : k' = k
    · rw [List.find?_cons_of_pos (by simpa using c), List.find?_cons_of_pos (by simpa using c)]
      exact ⟨fun v e => by cases e; exact ⟨w, rfl, r⟩, fun e => (nomatch e)⟩
    · rw [List.find?_cons_of_neg (by simpa using c), List.find?_cons_of_neg (by simpa using c)]
      exact ⟨h1, h2⟩
theorem dict_rel {o : AO} {kvs : List (Key × AV)} {a : Addr} {u : HO} {m : Nat} (e : o.dict = some kvs) {b : Addr} (hu : H a = some u) (r : RU X.K G ι m H b o u) : ∃ ws, Rd H a (.dK ws) ∧ RKs X.K G ι m H kvs ws := by
  cases r with
  | dct r => cases e; exact ⟨_, Rd.of hu, r⟩
  | lst r => cases e
  | dtt r => cases e
  | ins _ r => cases e
  | exo _ _ _ => cases e
  | xdc _ _ => cases e
  | lck r =>
    cases r with
    | exo _ _ _ => cases e
    | xdc _ _ => cases e
    | dct r => cases e; exact ⟨_, .inr ⟨_, hu⟩, r⟩
    | lst r => cases e
    | dtt r => cases e
    | ins _ r => cases e
    | lck r => cases e
theorem dictOf_rel (rh : RH X.K G ι S H) {x : AV} {w : V} (r : RV X.K G ι S.n H x w) {kvs : List (Key × AV)} (e : dictOf S x = some kvs) : ∃ a ws, w = .ref a ∧ Rd H a (.dK ws) ∧ RKs X.K G ι S.n H kvs ws := by
  cases r with
  | ref h =>
    rename_i n
    have e1 : (match S.get n with | some o => o.dict | none => none) = some kvs := e
    cases hg : S.get n with
    | none => rw [hg] at e1; cases e1
    | some o =>
      rw [hg] at e1
      obtain ⟨u, h1, h2⟩ := rh.obj hg
      obtain ⟨ws, h3, h4⟩ := dict_rel e1 h1 h2
      exact ⟨_, ws, rfl, h3, h4⟩
  | _ => cases e
theorem key_rel {m : Nat} {x : AV} {w : V} {k : Key} (r : RV X.K G ι m H x w) (e : keyOf x = some k) : w = kV k := by
  cases r <;> first | (cases e; rfl) | cases e
theorem dget_rel (rh : RH X.K G ι S H) {x y : AV} {w1 w2 : V} (r1 : RV X.K G ι S.n H x w1) (r2 : RV X.K G ι S.n H y w2) {kvs : List (Key × AV)} {k : Key} (e : dictOf S x = some kvs) (ek : keyOf y = some k) :
    ∃ a o, w1 = .ref a ∧ DGet H a w2 o ∧ o.isSome = (getK kvs k).isSome ∧ ∀ v, getK kvs k = some v → ∃ w, o = some w ∧ RV X.K G ι S.n H v w := by
  obtain ⟨a, ws, e1, e2, e3⟩ := dictOf_rel rh r1 e
  obtain ⟨h1, h2⟩ := find_rel (X := X) (G := G) k e3
  refine ⟨a, valV ws k, e1, .inl ⟨ws, k, e2, key_rel r2 ek, rfl⟩, ?_, fun v ev => ?_⟩
  · cases hv : getK kvs k with
    | none => rw [h2 hv]; rfl
    | some v => obtain ⟨w, hw, _⟩ := h1 v hv; rw [hw]; rfl
  · obtain ⟨w, hw, rw'⟩ := h1 v ev
    exact ⟨w, hw, rw'⟩
theorem inA_ok {x y : AV} {w1 w2 : V} {b : Bool} (hu : X.A.units + 64 < cLine) (rh : RH X.K G ι S H) (r1 : RV X.K G ι S.n H x w1) (r2 : RV X.K G ι S.n H y w2) (e : inA x y S = some b) :
    (Q (.bl b) H → opW X (compareOp .In) w1 w2 H Q) ∧ (Q (.bl (!b)) H → opW X (compareOp .NotIn) w1 w2 H Q) := by
  have hu1 : X.A.units + 1 < cLine := by omega
  have gen : (match seqOf S y with
    | some ys => if flat x && ys.all flat then some (ys.any fun z => eqF z x) else none
    | none => (match dictOf S y, keyOf x with
      | some kvs, some k => some (getK kvs k).isSome
      | _, _ => none)) = some b → (Q (.bl b) H → opW X (compareOp .In) w1 w2 H Q) ∧ (Q (.bl (!b)) H → opW X (compareOp .NotIn) w1 w2 H Q) := by
    intro e
    cases hs : seqOf S y with
    | some ys =>
      rw [hs] at e
      dsimp only at e
      split at e
      · rename_i c
        cases e
        obtain ⟨c1, c2⟩ := Bool.and_eq_true_iff.mp c
        obtain ⟨a, vs, rfl, sq, rs⟩ := seqOf_rel rh r2 hs
        have f1 := flat_rel r1 c1
        have f2 := flats_rel rs c2
        have ea := anyF_rel r1 c1 rs c2
        exact ⟨fun q => opW.of op_in_seq ⟨a, vs, rfl, sq, f1, f2, by rw [ea]; exact q⟩, fun q => opW.of op_notIn_seq ⟨a, vs, rfl, sq, f1, f2, by rw [ea]; exact q⟩⟩
      · cases e
    | none =>
      rw [hs] at e
      cases hd : dictOf S y with
      | none => rw [hd] at e; cases e
      | some kvs =>
        cases hk : keyOf x with
        | none => rw [hd, hk] at e; cases e
        | some k =>
          rw [hd, hk] at e; cases e
          obtain ⟨a, o, rfl, g, es, _⟩ := dget_rel rh r2 r1 hd hk
          refine ⟨fun q pins s σ v u I rx ry => ?_, fun q pins s σ v u I rx ry => ?_⟩
          · obtain rfl : u = Value.ref a := ry
            exact d_in hu1 I g rx fun s3 I3 => ⟨.bl o.isSome, H, I3, rfl, by rw [es]; exact q⟩
          · obtain rfl : u = Value.ref a := ry
            exact d_notIn hu1 I g rx fun s3 I3 => ⟨.bl (!o.isSome), H, I3, rfl, by rw [es]; exact q⟩
  cases r2 with
  | str t =>
    cases r1 with
    | str s =>
      cases e
      exact ⟨fun q => opW.of op_in_str ⟨s, t, rfl, rfl, q⟩, fun q => opW.of op_notin_str ⟨s, t, rfl, rfl, q⟩⟩
    | _ => cases e
  | tup a b => exact gen e
  | ref a => exact gen e
  | _ => exact gen e
theorem non_rel {m : Nat} {x : AV} {w : V} (r : RV X.K G ι m H x w) : decide (w = V.non) = isNon x := by
  cases r <;> rfl
theorem cmpA_ok {op : CmpOp} {x y : AV} {w1 w2 : V} {b : Bool} (hu : X.A.units + 64 < cLine) (rh : RH X.K G ι S H) (r1 : RV X.K G ι S.n H x w1) (r2 : RV X.K G ι S.n H y w2) (e : cmpA op x y S = some b) (q : Q (.bl b) H) : opW X (compareOp op) w1 w2 H Q := by
  cases op with
  | Eq => exact (eqA_ok hu rh r1 r2 e).1 q
  | NotEq =>
    have e1 : (eqA S x y).map (!·) = some b := e
    cases h : eqA S x y with
    | none => rw [h] at e1; cases e1
    | some c => rw [h] at e1; cases e1; exact (eqA_ok hu rh r1 r2 h).2 q
  | Lt => cases r1 <;> first | (cases r2 <;> first | (cases e; exact opW.of op_lt ⟨_, _, rfl, rfl, q⟩) | cases e) | cases e
  | LtE => cases r1 <;> first | (cases r2 <;> first | (cases e; exact opW.of op_le ⟨_, _, rfl, rfl, q⟩) | cases e) | cases e
  | Gt => cases r1 <;> first | (cases r2 <;> first | (cases e; exact opW.of op_gt ⟨_, _, rfl, rfl, q⟩) | cases e) | cases e
  | GtE => cases r1 <;> first | (cases r2 <;> first | (cases e; exact opW.of op_ge ⟨_, _, rfl, rfl, q⟩) | cases e) | cases e
  | In => exact (inA_ok hu rh r1 r2 e).1 q
  | NotIn =>
    have e1 : (inA x y S).map (!·) = some b := e
    cases h : inA x y S with
    | none => rw [h] at e1; cases e1
    | some c => rw [h] at e1; cases e1; exact (inA_ok hu rh r1 r2 h).2 q
  | Is =>
    cases r2 with
    | non =>
      have e1 : some (isNon x) = some b := e
      rw [← non_rel r1] at e1
      cases e1
      exact opW.of op_isN ⟨rfl, q⟩
    | _ => cases e
  | IsNot =>
    cases r2 with
    | non =>
      have e1 : some (!isNon x) = some b := e
      rw [← non_rel r1] at e1
      cases e1
      exact opW.of op_notN ⟨rfl, q⟩
    | _ => cases e
end
end Ab

namespace Ab
open PySem PySem.Spec PyProof.Rows L2
/-- the first ones alone -/
def ddS (xs : List Str) : List Str := xs.foldl (fun acc x => if acc.any (· == x) then acc else acc ++ [x]) []
theorem ddS_snoc (xs : List Str) (x : Str) : ddS (xs ++ [x]) = if (ddS xs).any (· == x) then ddS xs else ddS xs ++ [x] := by
  unfold ddS; rw [List.foldl_append]; rfl
theorem ddS_le (xs : List Str) : ∀ acc : List Str, (xs.foldl (fun acc x => if acc.any (· == x) then acc else acc ++ [x]) acc).length ≤ acc.length + xs.length := by
  induction xs with
  | nil => intro acc; exact Nat.le_refl _
  | cons x xs ih =>
    intro acc
    rw [List.foldl_cons]
    have q := ih (if acc.any (· == x) then acc else acc ++ [x])
    split at q
    · rename_i c; rw [if_pos c]; rw [List.length_cons]; omega
    · rename_i c; rw [if_neg c]; rw [List.length_append, List.length_singleton] at q; rw [List.length_cons]; omega
section
variable {prog : Program} {w : World} {A : Around} {R : Result → Shared → Prop} {I : Addr} {fp wr : List Addr} {G : Array GenState → Array GenState → Prop} {n : Nat} {P : Nat → Value → Prop} {T : Nat → Shared → Prop}
/-- the loop that fills a set by texts -/
theorem fillS (W : WalksS prog w A.in1 I fp wr G n P T) (S : Addr) (off : S ∉ fp) (xs : List Str) (hsz : xs.length = n) (hb : n + 1 < scanBound)
    (vals : ∀ i v, P i v → ∃ t, v = .str (xs.getD i Str.empty) t) : ∀ (k i : Nat) (s : Shared), n - i = k → i ≤ n → T i s →
      s.heap.SetOf (PySem.strKind prog w) S (fun y => (ddS (xs.take i)).any (· == y)) (ddS (xs.take i)).length →
      (∀ s1, Moved (S :: wr) G s s1 → s1.heap.SetOf (PySem.strKind prog w) S (fun y => (ddS xs).any (· == y)) (ddS xs).length → R (.ok (.ret .none)) s1) →
      codeAny (model prog w) A (.builtin "set.update.loop" ⟨[.ref S, .ref I], []⟩) R s := by
  have offW : S ∉ wr := fun z => off (W.sub _ z)
  have incl : ∀ b ∈ wr, b ∈ S :: wr := fun b z => List.mem_cons_of_mem _ z
  intro k
  induction k with
  | zero =>
    intro i s hk hi ht hS fin
    have e : i = n := by omega
    subst e
    refine codeAny_builtin F.entry_set_update_loop ?_
    rw [Around.under_plainId F.plain_set_update_loop _]
    show wpAny _ A.in1 (pyNext (.ref I) >>= _) _ _ s
    refine wpAny_bind (W.done s _ _ ht fun s1 mv => ?_)
    show wpAny _ A.in1 (ret Value.none) _ _ s1
    refine wpAny_pure (fin s1 (mv.mono incl) ?_)
    rw [List.take_of_length_le (by omega)] at hS
    obtain ⟨o, es, ep, t, ho, more⟩ := hS
    exact ⟨o, es, ep, t, mv.heap S _ offW ho, more⟩
  | succ k ih =>
    intro i s hk hi ht hS fin
    have lt : i < n := by omega
    refine codeAny_builtin F.entry_set_update_loop ?_
    rw [Around.under_plainId F.plain_set_update_loop _]
    show wpAny _ A.in1 (pyNext (.ref I) >>= _) _ _ s
    refine wpAny_bind (W.item i s _ _ lt ht fun v s1 pv ht1 mv => ?_)
    obtain ⟨t, rfl⟩ := vals i v pv
    have hS1 : s1.heap.SetOf (PySem.strKind prog w) S (fun y => (ddS (xs.take i)).any (· == y)) (ddS (xs.take i)).length := by
      obtain ⟨o, es, ep, tb, ho, more⟩ := hS
      exact ⟨o, es, ep, tb, mv.heap S _ offW ho, more⟩
    show wpAny _ A.in1 (holding [Value.str (xs.getD i Str.empty) t] (setAdd S (.str (xs.getD i Str.empty) t)) >>= _) _ _ s1
    refine wpAny_bind (wpAny_holding ?_)
    unfold setAdd
    refine wpAny_holding (wpAny_bind ((PySem.strKind prog w).pyHash (k := xs.getD i Str.empty) (strKind_is _ _ _ _) ?_))
    have room : (ddS (xs.take i)).length + 1 < scanBound := by
      have q := ddS_le (xs.take i) []
      rw [List.length_nil, List.length_take] at q
      have q2 : (ddS (xs.take i)).length ≤ 0 + min i xs.length := q
      omega
    refine wpAny_setAddHashed_of (knd := PySem.strKind prog w) (s := { s1 with toks := s1.toks + 1 }) (strKind_is _ _ _ _) rfl hS1 room fun h2 sb hS2 => ?_
    have e2 : xs.take (i + 1) = xs.take i ++ [xs.getD i Str.empty] := by
      rw [List.take_add_one, List.getD_eq_getElem?_getD, List.getElem?_eq_getElem (by omega)] <;> rfl
    have hSi : h2.SetOf (PySem.strKind prog w) S (fun y => (ddS (xs.take (i + 1))).any (· == y)) (ddS (xs.take (i + 1))).length := by
      rw [e2, ddS_snoc]
      generalize xs.getD i Str.empty = z at hS2 ⊢
      refine SetOf_congr hS2 (fun y => ?_) ?_
      · by_cases c : (ddS (xs.take i)).any (· == z) = true
        · rw [if_pos c]
          by_cases e : y = z
          · subst e; simp only [c, decide_true, Bool.or_true]
          · simp only [e, decide_false, Bool.or_false]
        · rw [if_neg c, List.any_append]
          congr 1
          by_cases e : y = z
          · subst e; simp
          · have q : (z == y) = false := by simpa [beq_iff_eq] using fun z' : z = y => e z'.symm
            simp [q, e]
      · by_cases c : (ddS (xs.take i)).any (· == z) = true
        · rw [if_pos c]; simp only [c, if_true]
        · rw [if_neg c]; simp only [c]; simp
    refine wpAny_pure ⟨plainId_quiet F.plain_set_update_loop _, ih (i + 1) _ (by omega) lt (W.frame _ s1 _ _ ht1 (Nat.le_succ _) fun b zb o e => ?_) hSi fun s3 mv3 hS3 => ?_⟩
    · rw [sb.2 b (fun z : b = S => off (by rw [← z]; exact zb))]; exact e
    · refine fin s3 (Moved.trans W.gtrans ((mv.mono incl).then_heap (Nat.le_succ _) fun b o zb e => ?_) mv3) hS3
      rw [sb.2 b (fun z : b = S => zb (by rw [z]; exact List.mem_cons_self))]; exact e
end
section
variable {prog : Program} {w : World} {A : Around} {E : Value → Shared → Prop} {s : Shared}
abbrev newSet (led : Bool) : Obj := { cls := .type "set", dict := none, data := .set #[] 0 (.fresh 0 0 led) }
theorem set_of_list {l : Addr} {items : Array Value} {xs : List Str} {Q : Value → Shared → Prop} (calm : A.handled = none) (hl : s.heap.IsList l items) (are : StrsAre items.toList xs) (few : items.size + 1 < scanBound)
    (q : ∀ (h1 : Heap) (tk : Nat), h1.SetOf (PySem.strKind prog w) s.heap.objs.size (fun y => (ddS xs).any (· == y)) (ddS xs).length →
      (∀ b o, b < s.heap.objs.size → s.heap.get? b = some o → h1.get? b = some o) → Q (.ref s.heap.objs.size) { s with heap := h1, toks := tk }) :
    wpAny (model prog w) A (call (.type "set") [.ref l]) Q E s := by
  obtain ⟨c, tl, mro⟩ := PySem.F.called_set.mro
  have made := PySem.F.called_set.made
  have sub := PySem.F.called_set.sub
  refine wpAny_call (codeAny_of_tree ?_)
  show wpAny _ _ (callAny (.type "set") _) _ _ _
  refine wpAny_pure ⟨Code.quiet_builtin _ (by decide +kernel), codeAny_builtin PySem.F.entry_type_call ?_⟩
  rw [Around.under_plain (weight_type_call_type "set" [.ref l] []) rfl]
  have f1 := PySem.F.called_set.notType
  have f2 := PySem.F.called_set.canCreate
  have f3 := PySem.F.typeCall_set_1 (.ref l)
  repeat (any_goals (first | assumption | wp_step))
  refine codeAny_mono (code_set_new_1 (.ref l) (E := E) (Q₁ := fun ob s1 => ∃ led : Bool, ob = .ref s.heap.objs.size ∧ s1 = { s with heap := s.heap.push (newSet led) }) fun led => ⟨led, rfl, rfl⟩) fun r s1 hr => ?_
  cases r with
  | error e => exact hr
  | ok fl =>
    cases fl with
    | ret ob =>
      obtain ⟨led, rfl, rfl⟩ := hr
      have hS : (s.heap.push (newSet led)).get? s.heap.objs.size = some (newSet led) := Heap.get?_push_size _ rfl
      have hT : Shared.TypeIs { s with heap := s.heap.push (newSet led) } (.ref s.heap.objs.size) "set" := ⟨_, hS, rfl⟩
      have f4 := PySem.F.called_set.init.lookup
      have f5 := PySem.F.called_set.init.bind (.ref s.heap.objs.size)
      repeat (any_goals (first | assumption | wp_step))
      refine codeAny_mono (codeAny_call_builtin (R := wants (fun r s2 => r = .none ∧ ∃ h1 tk, s2 = { s with heap := h1, toks := tk } ∧
          h1.SetOf (PySem.strKind prog w) s.heap.objs.size (fun y => (ddS xs).any (· == y)) (ddS xs).length ∧
          (∀ b o, b < s.heap.objs.size → s.heap.get? b = some o → h1.get? b = some o)) E) PySem.F.called_set.init.plain PySem.F.entry_set_init (check_set_init_1 hT ?_)) fun r2 s2 hr2 => ?_
      · obtain ⟨⟨ocls, odict, odata, oslots⟩, hol, hcl, nl, hdl⟩ := hl
        simp only at hcl hdl
        subst hcl; subst hdl
        have hol1 : (s.heap.push (newSet led)).get? l = some { cls := .type "list", dict := odict, data := .seq items nl, slots := oslots } := Heap.get?_push_of_some _ hol
        have f6 := PySem.F.sub_list_set
        have f7 := PySem.F.sub_list_frozenset
        have f8 : (Value.type "list" == Value.type "dict") = false := by decide
        have hl1 : (s.heap.push (newSet led)).IsList l items := ⟨_, hol1, rfl, nl, rfl⟩
        unfold Builtin.«set.__init__» noKeywords Builtin.Frozenset.updateFrom
        generalize hPI : pyIter = PI
        wp_walk
        subst hPI
        refine wpAny_pyIter_list hl1 (wpAny_bind (wpAny_runValue ?_))
        have lS : l < s.heap.objs.size := Heap.lt_size hol
        have calm3 : A.in1.in1.in1.handled = none := by simp [calm]
        have neI : l ≠ (s.heap.push (newSet led)).objs.size := by
          rw [Heap.size_push]; exact Nat.ne_of_lt (Nat.lt_succ_of_lt lS)
        have off : s.heap.objs.size ∉ [(s.heap.push (newSet led)).objs.size, l] := by
          rw [Heap.size_push]; simp only [List.mem_cons, List.mem_singleton, List.not_mem_nil, or_false, not_or]
          exact ⟨Nat.ne_of_lt (Nat.lt_succ_self _), Nat.ne_of_gt lS⟩
        have size : xs.length = items.size := by rw [← StrsAre.len_eq are, Array.length_toList]
        have vals : ∀ (i : Nat) (v : Value), items[i]? = some v → ∃ t, v = .str (xs.getD i Str.empty) t := fun i v hv => SS.strs_at are i v (by rw [Array.getElem?_toList]; exact hv)
        refine fillS ((Walks.list calm3 _ l neI items).toS) s.heap.objs.size off xs size few vals (items.size - 0) 0 _ (by omega) (Nat.zero_le _) ⟨⟨_, Heap.get?_push_size _ rfl, rfl, rfl⟩, (hl1.push _)⟩ ?start ?fin
        case start =>
          have hget : ((s.heap.push (newSet led)).push { cls := .type "list_iterator", data := .fields #[.ref l, .int 0 0] }).get? s.heap.objs.size = some (newSet led) := Heap.get?_push_of_some _ hS
          exact SetOf_congr ((setObjOf_fresh (knd := PySem.strKind prog w) led).setOf hget (by unfold scanBound; omega)) (fun _ => rfl) rfl
        case fin =>
          intro s1 mv hS1
          obtain ⟨h1, g1, d1, tk1, os1⟩ := s1
          have eg : g1 = s.gens := mv.gens
          have ed : d1 = s.drawn := mv.drawn
          have eo : os1 = s.os := mv.os
          subst eg; subst ed; subst eo
          show wpAny _ _ _ _ _ _
          refine wpAny_pure ?_
          show wpAny _ _ (ret Value.none) _ _ _
          refine wpAny_pure ⟨rfl, h1, tk1, rfl, hS1, fun b o hb e => ?_⟩
          have b1 : b ≠ s.heap.objs.size := Nat.ne_of_lt hb
          have b2 : b ≠ (s.heap.push (newSet led)).objs.size := by
            rw [Heap.size_push]; exact Nat.ne_of_lt (Nat.lt_succ_of_lt hb)
          exact mv.heap b o (by simp only [List.mem_cons, List.mem_singleton, List.not_mem_nil, or_false, not_or]; exact ⟨b1, b2⟩) (Heap.get?_push_of_some _ (Heap.get?_push_of_some _ e))
      · cases r2 with
        | error e => exact hr2
        | ok fl2 =>
          cases fl2 with
          | ret r =>
            obtain ⟨rfl, h1, tk, rfl, hS1, hk1⟩ := hr2
            repeat (any_goals (first | assumption | wp_step))
            exact q _ _ hS1 hk1
          | _ => exact hr2.elim
    | _ => exact hr.elim
end
section
variable {X : Cx}
/-- len(set(xs)), xs a list of texts -/
def tLsT (K : PySem.W.Frag) (ta : TE) : TE := fun σ H Q => ta σ H fun x H1 => ∃ (l : Addr) (xs : List Str), x = .ref l ∧ SqL K H1 l (xs.map V.str) ∧ xs.length ≤ 4000 ∧ Q (.int ((ddS xs).length : Nat)) H1
theorem pe_lsT {a : Expr} {ta : TE} {p p2 q pos : Pos} (hc : X.calm = true) (hg : Gl X "len") (hm : X.mg "len" = none) (hg2 : Gl X "set") (hm2 : X.mg "set" = none) (ha : PE X a ta)
    (na : starEach [a] X.env = (false, eval a X.env) :: starEach [] X.env) : PE X (.Call (.Name "len" p) [.Call (.Name "set" p2) [a] [] q] [] pos) (tLsT X.K ta) := by
  refine ⟨fun pins s σ H Q I h => Call_ (ld_blt I hg hm PySem.boot_len (callWith_builtin1 (args_cons ?_ rfl) rfl rfl))⟩
  refine Call_ (ld_blt I hg2 hm2 PyProof.Rows.boot_set (callWith_type1 (args_cons (thn (ha.run pins s σ H _ I h) fun v s1 ⟨x, H1, I1, r1, q1⟩ => args_nil ?_) na) na rfl))
  obtain ⟨l, xs, rfl, hq, few, q1⟩ := q1
  cases r1
  obtain ⟨its, r, pl, hz⟩ := I1.list hq
  have size : its.toArray.size = xs.length := by rw [List.size_toArray, ← r.length, List.length_map]
  refine set_of_list (I1.ok.hd hc) pl.isList (by simpa using strsAre_of r) (by rw [size]; unfold scanBound; omega) fun h1 tk hS hk => args_nil ?_
  have le : (ddS xs).length ≤ xs.length := by
    have z := ddS_le xs []
    rw [List.length_nil, Nat.zero_add] at z
    exact z
  obtain ⟨o, es, ep, t, ho, hex, hd, _, _, _, hf, hn⟩ := hS
  have I2 : Inv X pins σ H1 { s1 with heap := h1, toks := tk } := I1.kept fun b o e => hk b o (Heap.lt_size e) e
  exact call_len_set ho hex hd hf (by rw [hn] <;> omega) ⟨.int ((ddS xs).length : Nat), H1, I2.tok _, ⟨_, by rw [hn]⟩, q1⟩
end
end Ab

namespace Ab
open PySem L2

inductive Itr where
  | seq (r : Nat)
  | tup (xs : List AV)
  | rng (lo : Int) (n : Nat)
  | enL (r : Nat)
  | enT (xs : List AV)
  | str (x : Str)
def seqAt (S : Hs) (r : Nat) : Option (List AV) := match S.get r with
  | some o => o.seq
  | none => none
def Itr.at (t : Itr) (i : Nat) (S : Hs) : Option (Option AV) := match t with
  | .seq r => (match seqAt S r with
    | some xs => some xs[i]?
    | none => none)
  | .tup xs => some xs[i]?
  | .rng lo n => some (if i < n then some (.int (lo + i)) else none)
  | .enL r => (match seqAt S r with
    | some xs => some (xs[i]?.map fun x => .tup [.int i, x])
    | none => none)
  | .enT xs => some (xs[i]?.map fun x => .tup [.int i, x])
  | .str x => some ((x.cps.toList[i]?).map fun c => .str ⟨#[c]⟩)
def loopI {β : Type} (it : Itr) (f : AV → β → Hs → Rs β) : Nat → Nat → β → Hs → Rs β
  | 0, _, _, _ => .bad
  | m + 1, i, b, S => match it.at i S with
    | none => .bad
    | some none => .ok b S
    | some (some v) => (f v b S).bind fun b' S' => loopI it f m (i + 1) b' S'
def turns : Nat := 100000

def cutA (xs : List AV) (lo hi : Option Int) : List AV := (xs.drop (HT.sIx xs.length 0 lo)).take (HT.sIx xs.length xs.length hi - HT.sIx xs.length 0 lo)
def slcA (S : Hs) (x : AV) (lo hi : Option Int) : Rs AV := match x with
  | .tup xs => .ok (.tup (cutA xs lo hi)) S
  | .ref r => (match seqAt S r with
    | some xs => alloc S (.lst (cutA xs lo hi))
    | none => .bad)
  | _ => .bad
def blsOf : List AV → Option (List Bool)
  | [] => some []
  | .bl b :: r => (match blsOf r with
    | some bs => some (b :: bs)
    | none => none)
  | _ => none
def intsOf : List AV → Option (List Int)
  | [] => some []
  | .int i :: r => (match intsOf r with
    | some is => some (i :: is)
    | none => none)
  | _ => none
def strsOf : List AV → Option (List Str)
  | [] => some []
  | .str i :: r => (match strsOf r with
    | some is => some (i :: is)
    | none => none)
  | _ => none
/-- a dict as it may be changed -/
def dctOf (S : Hs) : AV → Option (List (Key × AV))
  | .ref r => match S.get r with
    | some (.dct kvs) => some kvs
    | _ => none
  | _ => none
/-- of which type a value is -/
def tyOf (S : Hs) : AV → Option Ty
  | .non => some (.b .non)
  | .bl _ => some (.b .bool)
  | .int _ => some (.b .int)
  | .str _ => some (.b .str)
  | .tup _ => some (.b .tuple)
  | .ref r => (match S.get r with
    | some (.lst _) => some (.b .list)
    | some (.lck (.lst _)) => some (.b .list)
    | some (.dct _) => some (.b .dict)
    | some (.dtt _) => some (.b .dict)
    | some (.lck (.dct _)) => some (.b .dict)
    | some (.ins k _) => some (.c k)
    | _ => none)
  | _ => none
def isTy (G : Gx) : Ty → Ty → Option Bool
  | .b t, .b u => some (decide (t = u) || (decide (t = .bool) && decide (u = .int)))
  | .b _, .c j => if (G.cls[j]?).isSome then some false else none
  | .c k, .c j => (match G.cls[k]?, G.cls[j]? with
    | some c, some _ => some (c.sup.contains j)
    | _, _ => none)
  | .c k, .b u => (match G.cls[k]? with
    | some c => some ((decide (u = .verr) && decide (c.xb = 1)) || (decide (u = .lerr) && decide (c.xb = 2)))
    | none => none)
def isTys (G : Gx) (t : Ty) : List Ty → Option Bool
  | [] => some false
  | u :: r => (match isTy G t u with
    | some true => some true
    | some false => isTys G t r
    | none => none)
def plainT (G : Gx) : Ty → Bool
  | .b _ => true
  | .c k => (match G.cls[k]? with
    | some c => c.plain
    | none => false)
def isiA (G : Gx) (S : Hs) (x : AV) (ts : List Ty) : Option Bool := match tyOf S x with
  | some t => if plainT G t then isTys G t ts else none
  | none => none
/-- an exception's class -/
def exAt (S : Hs) : AV → Option Nat
  | .ref r => (match S.get r with
    | some (.exo k none) => some k
    | some (.exo k (some n)) => (match S.get n with
      | some (.xdc _) => some k
      | _ => none)
    | _ => none)
  | _ => none
def isiE (G : Gx) (S : Hs) (x : AV) (ts : List Ty) : Option Bool := match exAt S x with
  | some k => (match G.cls[k]? with
    | some c => if c.xb ≠ 0 then isTys G (.c k) ts else none
    | none => none)
  | none => isiA G S x ts
/-- {x}, {x!r} -/
def shA (S : Hs) (x : AV) : Option Str := match toD 60 S x with
  | some d => if (d.showable && !d.hasDict && decide (d.depth ≤ 60) && decide (d.shown.length ≤ sizeLine)) = true then some d.shown else none
  | none => none
def fmtA (r : Bool) (x : AV) (S : Hs) : Option Str := match r, x with
  | false, .str y => if okLen y.length then some y else none
  | _, x => shA S x
def bltA (f : Bf) (xs : List AV) (S : Hs) : Rs AV := match f, xs with
  | .len, [x] => (match x with
    | .str z => if okLen z.length then .ok (.int z.length) S else .bad
    | _ => (match seqOf S x with
      | some ys => .ok (.int ys.length) S
      | none => (match dctOf S x with
        | some kvs => .ok (.int kvs.length) S
        | none => .bad)))
  | .all, [.ref r] => (match seqAt S r with
    | some ys => (match blsOf ys with
      | some bs => .ok (.bl (bs.all id)) S
      | none => .bad)
    | none => .bad)
  | .tuple, [x] => (match seqOf S x with
    | some ys => .ok (.tup ys) S
    | none => .bad)
  | .list, [x] => (match seqOf S x with
    | some ys => alloc S (.lst ys)
    | none => .bad)
  | .int, [x] => (match x with
    | .int i => .ok (.int i) S
    | .bl b => .ok (.int (if b then 1 else 0)) S
    | _ => .bad)
  | .max, [.int i, .int j] => .ok (.int (if j > i then j else i)) S
  | .min, [.int i, .int j] => .ok (.int (if j < i then j else i)) S
  | .sum, [.ref r] => (match seqAt S r with
    | some ys => (match intsOf ys with
      | some is => .ok (.int is.sum) S
      | none => .bad)
    | none => .bad)
  | .repr, [x] => (match toD 60 S x with
    | some d => if (d.showable && !d.hasDict && decide (d.depth ≤ 60) && decide (d.shown.length ≤ sizeLine)) = true then .ok (.str d.shown) S else .bad
    | none => .bad)
  | .lenset, [.ref r] => (match seqAt S r with
    | some ys => (match strsOf ys with
      | some zs => if zs.length ≤ 4000 then .ok (.int ((ddS zs).length : Nat)) S else .bad
      | none => .bad)
    | none => .bad)
  | .lrng, [.int n] => if -(2 ^ 62) ≤ n ∧ n ≤ 2 ^ 24 then alloc S (.lst ((List.range n.toNat).map fun i => .int (i : Nat))) else .bad
  | _, _ => .bad
inductive Bt where
  | lst | str | dct
/-- the built-in type whose method is meant -/
def tyB (S : Hs) : AV → Option Bt
  | .str _ => some .str
  | .ref r => (match S.get r with
    | some (.lst _) => some .lst
    | some (.lck (.lst _)) => some .lst
    | some (.dct _) => some .dct
    | _ => none)
  | _ => none
def bmId : Bt → Bm → Option String
  | .lst, .append => some "list.append"
  | .lst, .pop => some "list.pop"
  | .lst, .index => some "list.index"
  | .lst, .extend => some "list.extend"
  | .lst, .clear => some "list.clear"
  | .str, .join => some "str.join"
  | _, _ => none
def idxF (y : AV) : List AV → Nat → Option Nat
  | [], _ => none
  | x :: xs, i => if eqF x y then some i else idxF y xs (i + 1)
def bmA (t : Bt) (b : Bm) (o : AV) (xs : List AV) (S : Hs) : Rs AV := match t, b, o, xs with
  | .lst, .append, .ref r, [x] => (match S.get r with
    | some (.lst ys) => if ys.length < sizeLine then .ok .non (S.set r (.lst (ys ++ [x]))) else .bad
    | _ => .bad)
  | .lst, .pop, .ref r, [] => (match S.get r with
    | some (.lst ys) => (match ys[ys.length - 1]? with
      | some y => .ok y (S.set r (.lst ys.dropLast))
      | none => .bad)
    | _ => .bad)
  | .lst, .pop, .ref r, [.int i] => (match S.get r with
    | some (.lst ys) => if -(2 ^ 63) ≤ i ∧ i < 2 ^ 63 then (match seqIndex? i ys.length with
      | some k => (match ys[k]? with
        | some y => .ok y (S.set r (.lst (ys.eraseIdx k)))
        | none => .bad)
      | none => .bad) else .bad
    | _ => .bad)
  | .lst, .clear, .ref r, [] => (match S.get r with
    | some (.lst _) => .ok .non (S.set r (.lst []))
    | _ => .bad)
  | .lst, .extend, .ref r, [.ref q] => (match S.get r, S.get q with
    | some (.lst ys), some (.lst zs) => if okLen (ys.length + zs.length) then .ok .non (S.set r (.lst (ys ++ zs))) else .bad
    | _, _ => .bad)
  | .lst, .index, .ref r, [x] => (match seqAt S r with
    | some ys => if flat x && ys.all flat then (match idxF x ys 0 with
      | some j => .ok (.int (j : Nat)) S
      | none => .bad) else .bad
    | none => .bad)
  | .str, .join, .str a, [.ref p] => (match seqAt S p with
    | some ys => (match strsOf ys with
      | some zs => if (zs.map (·.length)).sum + zs.length * a.length ≤ 16777216 then .ok (.str (Txt.join a zs)) S else .bad
      | none => .bad)
    | none => .bad)
  | _, _, _, _ => .bad

/-- nothing may be raised -/
def Rs.nox {α : Type} : Rs α → Rs α
  | .exc _ _ => .bad
  | r => r
def asgL (f : Tg → AV → Ev → Hs → Rs Ev) : List Tg → List AV → Ev → Hs → Rs Ev
  | [], [], ρ, S => .ok ρ S
  | t :: ts, v :: vs, ρ, S => (f t v ρ S).nox.bind fun ρ1 S1 => asgL f ts vs ρ1 S1
  | _, _, _, _ => .bad
def putF (f : Nat) (v : AV) : List (Nat × AV) → List (Nat × AV)
  | [] => [(f, v)]
  | (g, w) :: r => if g = f then (g, v) :: r else (g, w) :: putF f v r
def setFA (G : Gx) (w : AV) (f : Nat) (v : AV) (S : Hs) : Rs Unit := match w with
  | .ref r => (match S.get r with
    | some (.ins c fs) => if fs.length < 1000 && isFld G c f then .ok () (S.set r (.ins c (putF f v fs))) else .bad
    | some (.exo c none) => if isXf G c f then .ok () ((S.push (.xdc [(f, v)])).set r (.exo c (some S.n))) else .bad
    | some (.exo c (some n)) => (match S.get n with
      | some (.xdc fs) => if decide (fs.length ≤ 900) && isXf G c f then .ok () (S.set n (.xdc ((f, v) :: fs))) else .bad
      | _ => .bad)
    | _ => .bad)
  | _ => .bad
def putKA (kvs : List (Key × AV)) (k : Key) (v : AV) : List (Key × AV) :=
  if (kvs.any fun kv => decide (kv.1 = k)) = true then kvs.map (fun kv => if kv.1 = k then (kv.1, v) else kv) else kvs ++ [(k, v)]
def setIA (w j v : AV) (S : Hs) : Rs Unit := match w with
  | .ref r => (match S.get r with
    | some (.lst xs) => (match j with
      | .int i => (match ixN xs.length i with
        | some n => .ok () (S.set r (.lst (xs.set n v)))
        | none => .bad)
      | _ => .bad)
    | some (.dct kvs) => (match keyOf j with
      | some k => if kvs.length < sizeLine then .ok () (S.set r (.dct (putKA kvs k v))) else .bad
      | none => .bad)
    | _ => .bad)
  | _ => .bad
def asg (G : Gx) (ev : E → Ev → Hs → Rs AV) : Nat → Tg → AV → Ev → Hs → Rs Ev
  | 0, _, _, _, _ => .bad
  | n + 1, t, v, ρ, S => match t with
    | .nm i => if i < ρ.length then .ok (ρ.set i (some v)) S else .bad
    | .tp ts => (match v with
      | .tup xs => asgL (asg G ev n) ts xs ρ S
      | _ => .bad)
    | .fld o f => (ev o ρ S).bind fun w S1 => (setFA G w f v S1).bind fun _ S2 => .ok ρ S2
    | .ix o i => (ev o ρ S).bind fun w S1 => (ev i ρ S1).bind fun j S2 => (setIA w j v S2).bind fun _ S3 => .ok ρ S3
/-- slots that are let go -/
def wipeA (ρ : Ev) : List Nat → Ev
  | [] => ρ
  | i :: r => (wipeA ρ r).set i none
/-- a comprehension's own names are stored -/
def asgC1 (own : List Nat) (i : Nat) (v : AV) (ρ : Ev) : Option Ev := if i < ρ.length && own.contains i then some (ρ.set i (some v)) else none
def asgCs (own : List Nat) : List Tg → List AV → Ev → Option Ev
  | [], [], ρ => some ρ
  | .nm i :: ts, x :: xs, ρ => (match asgC1 own i x ρ with
    | some ρ1 => asgCs own ts xs ρ1
    | none => none)
  | _, _, _ => none
def asgC (own : List Nat) (t : Tg) (v : AV) (ρ : Ev) : Option Ev := match t with
  | .nm i => asgC1 own i v ρ
  | .tp ts => (match v with
    | .tup xs => asgCs own ts xs ρ
    | _ => none)
  | _ => none

def isStar : E → Option E
  | .star e => some e
  | _ => none
/-- items, with stars -/
def evS (f : E → Hs → Rs AV) : List E → Hs → Rs (List AV)
  | [], S => .ok [] S
  | e :: es, S => match isStar e with
    | some e' => (f e' S).bind fun v S1 => (match seqOf S1 v with
      | some vs => (evS f es S1).bind fun ws S2 => .ok (vs ++ ws) S2
      | none => .bad)
    | none => (f e S).bind fun v S1 => (evS f es S1).bind fun vs S2 => .ok (v :: vs) S2
/-- texts one behind the other -/
def evJ (f : E → Hs → Rs AV) : List E → Str → Hs → Rs Str
  | [], acc, S => .ok acc S
  | e :: es, acc, S => (f e S).bind fun v S1 => match v with
    | .str y => if okLen (acc ++ y).length then evJ f es (acc ++ y) S1 else .bad
    | _ => .bad
/-- a display's pairs -/
def evP (f : E → Hs → Rs AV) : List E → List E → Hs → Rs (List (AV × AV))
  | [], [], S => .ok [] S
  | k :: ks, v :: vs, S => (f k S).bind fun x S1 => (f v S1).bind fun y S2 => (evP f ks vs S2).bind fun r S3 => .ok ((x, y) :: r) S3
  | _, _, _ => .bad
def keysA : List (AV × AV) → Option (List (Key × AV))
  | [] => some []
  | (x, y) :: r => (match keyOf x, keysA r with
    | some k, some l => some ((k, y) :: l)
    | _, _ => none)
def mergeA (kvs more : List (Key × AV)) : List (Key × AV) := more.foldl (fun acc kv => putKA acc kv.1 kv.2) kvs
def evO (f : E → Hs → Rs AV) : Option E → Hs → Rs (Option Int)
  | none, S => .ok none S
  | some e, S => (f e S).bind fun v S1 => match v with
    | .int i => .ok (some i) S1
    | _ => .bad
def srcA (f : E → Hs → Rs AV) (s : Src) (S : Hs) : Rs Itr := match s with
  | .e a => (f a S).bind fun v S1 => (match v with
    | .tup xs => .ok (.tup xs) S1
    | .str x => .ok (.str x) S1
    | .ref r => (match seqAt S1 r with
      | some _ => .ok (.seq r) S1
      | none => .bad)
    | _ => .bad)
  | .rng none b => (f b S).bind fun v S1 => (match v with
    | .int i => if -(2 ^ 62) ≤ i ∧ i < 2 ^ 62 then .ok (.rng 0 i.toNat) S1 else .bad
    | _ => .bad)
  | .rng (some a) b => (f a S).bind fun u S1 => (f b S1).bind fun v S2 => (match u, v with
    | .int i, .int j => if (-(2 ^ 62) ≤ i ∧ i < 2 ^ 62) ∧ (-(2 ^ 62) ≤ j ∧ j < 2 ^ 62) then .ok (.rng i (j - i).toNat) S2 else .bad
    | _, _ => .bad)
  | .enm a => (f a S).bind fun v S1 => (match v with
    | .ref r => (match seqAt S1 r with
      | some _ => .ok (.enL r) S1
      | none => .bad)
    | _ => .bad)
  | .zip _ _ => .bad
def tstA (v : AV) (S : Hs) : Rs Bool := match v with
  | .bl b => .ok b S
  | _ => .bad
/-- all tests hold -/
def evT (f : E → Hs → Rs AV) : List E → Hs → Rs Bool
  | [], S => .ok true S
  | e :: es, S => (f e S).bind fun v S1 => (tstA v S1).bind fun b S2 => if b then evT f es S2 else .ok false S2
/-- an own instance -/
def insAt (S : Hs) : AV → Option (Nat × List (Nat × AV))
  | .ref r => (match S.get r with
    | some (.ins k fs) => some (k, fs)
    | _ => none)
  | _ => none
def ch2 (r : Option Bool) (S : Hs) (k : Hs → Rs AV) : Rs AV := match r with
  | some true => k S
  | some false => .ok (.bl false) S
  | none => .bad
structure Pe where
  G : Gx
  C : Nat → List AV → Hs → Rs AV
def ev (P : Pe) : Nat → E → Ev → Hs → Rs AV
  | 0, _, _, _ => .bad
  | n + 1, e, ρ, S => match e with
    | .cst v => .ok v S
    | .var i => (match ρ[i]? with
      | some (some v) => .ok v S
      | _ => .bad)
    | .gc k => (match P.G.cons[k]? with
      | some c => .ok c.2 S
      | none => .bad)
    | .gf k => .ok (.fn k) S
    | .gk k => .ok (.cl k) S
    | .ty s => .ok (.ty s) S
    | .bin op a b => (ev P n a ρ S).bind fun x S1 => (ev P n b ρ S1).bind fun y S2 => binA op x y S2
    | .neg a => (ev P n a ρ S).bind fun x S1 => (match x with
      | .int i => .ok (.int (-i)) S1
      | _ => .bad)
    | .not a => (ev P n a ρ S).bind fun x S1 => (tstA x S1).bind fun b S2 => .ok (.bl (!b)) S2
    | .and a b => (ev P n a ρ S).bind fun x S1 => (tstA x S1).bind fun c S2 => if c then ev P n b ρ S2 else .ok (.bl false) S2
    | .or a b => (ev P n a ρ S).bind fun x S1 => (tstA x S1).bind fun c S2 => if c then .ok (.bl true) S2 else ev P n b ρ S2
    | .ite c a b => (ev P n c ρ S).bind fun x S1 => (tstA x S1).bind fun k S2 => if k then ev P n a ρ S2 else ev P n b ρ S2
    | .cmp op a b => (ev P n a ρ S).bind fun x S1 => (ev P n b ρ S1).bind fun y S2 => rb S2 (cmpA op x y S2)
    | .cmp2 op op' a b c => (ev P n a ρ S).bind fun x S1 => (ev P n b ρ S1).bind fun y S2 => ch2 (cmpA op x y S2) S2 fun S2 => (ev P n c ρ S2).bind fun z S3 => rb S3 (cmpA op' y z S3)
    | .tup es => (evS (fun e S => ev P n e ρ S) es S).bind fun vs S1 => if okLen vs.length then .ok (.tup vs) S1 else .bad
    | .lst es => (evS (fun e S => ev P n e ρ S) es S).bind fun vs S1 => if okLen vs.length then alloc S1 (.lst vs) else .bad
    | .idx a i => (ev P n a ρ S).bind fun x S1 => (ev P n i ρ S1).bind fun y S2 => idxA x y S2
    | .slc a lo hi => (ev P n a ρ S).bind fun x S1 => (evO (fun e S => ev P n e ρ S) lo S1).bind fun l S2 => (evO (fun e S => ev P n e ρ S) hi S2).bind fun h S3 => slcA S3 x l h
    | .attr a f => (ev P n a ρ S).bind fun x S1 => fldA P.G S1 x f
    | .call k es => (evL (fun e S => ev P n e ρ S) es S).bind fun vs S1 => P.C k vs S1
    | .make k es ks => (evL (fun e S => ev P n e ρ S) es S).bind fun vs S1 => (evL (fun e S => ev P n e ρ S) ks S1).bind fun ws S2 => (match P.G.cls[k]? with
      | some c => (match c.ini with
        | some i => (P.C i (.ref S2.n :: (vs ++ ws)) (S2.push (.ins k []))).bind fun r S3 => if isNon r then .ok (.ref S2.n) S3 else .bad
        | none => .bad)
      | none => .bad)
    | .blt f es => (evL (fun e S => ev P n e ρ S) es S).bind fun vs S1 => bltA f vs S1
    | .isi a m ts => (ev P n a ρ S).bind fun x S1 => rb S1 (if m then isiA P.G S1 x ts else isiE P.G S1 x ts)
    | .fmt r a => (ev P n a ρ S).bind fun x S1 => (match fmtA r x S1 with
      | some y => .ok (.str y) S1
      | none => .bad)
    | .jn es => (evJ (fun e S => ev P n e ρ S) es Str.empty S).bind fun y S1 => .ok (.str y) S1
    | .xmk k es => (evL (fun e S => ev P n e ρ S) es S).bind fun vs S1 => (match P.G.cls[k]? with
      | some c => (match c.xi with
        | some i => (P.C i (.ref S1.n :: vs) (S1.push (.exo k none))).bind fun r S3 => if isNon r then .ok (.ref S1.n) S3 else .bad
        | none => .bad)
      | none => .bad)
    | .xsup D es => (match ρ[0]? with
      | some (some (AV.ref r)) => (match S.get r with
        | some (.exo k none) => if k = D then (evL (fun e S => ev P n e ρ S) es S).bind fun vs S1 => (match S1.get r with
            | some (.exo k none) => if k = D then .ok .non S1 else .bad
            | _ => .bad) else .bad
        | _ => .bad)
      | _ => .bad)
    | .meth o f b es => (ev P n o ρ S).bind fun x S1 => (match insAt S1 x with
      | some (k, fs) => (match fs.lookup f, (P.G.cls[k]?).bind fun c => c.meths.lookup f with
          | none, some i => (evL (fun e S => ev P n e ρ S) es S1).bind fun vs S2 => P.C i (x :: vs) S2
          | _, _ => .bad)
      | none => (match b, tyB S1 x with
          | some m, some t => if (bmId t m).isSome then (evL (fun e S => ev P n e ρ S) es S1).bind fun vs S2 => bmA t m x vs S2 else .bad
          | _, _ => .bad))
    | .sup D k es => (match ρ[0]? with
      | some (some x) => (match insAt S x with
        | some (c, _) => (match P.G.cls[c]? with
          | some cl => if cl.sup.contains D then (evL (fun e S => ev P n e ρ S) es S).bind fun vs S1 => P.C k (x :: vs) S1 else .bad
          | none => .bad)
        | none => .bad)
      | _ => .bad)
    | .lc elt tg src ifs own => (srcA (fun e S => ev P n e ρ S) src S).bind fun it S1 =>
        (loopI it (fun v acc S => (match asgC own tg v (wipeA ρ own) with
          | some ρ1 => ((evT (fun e S => ev P n e ρ1 S) ifs S).bind fun b S3 => if b then (ev P n elt ρ1 S3).bind fun x S4 => if acc.length < sizeLine then .ok (acc ++ [x]) S4 else .bad else .ok acc S3).nox
          | none => .bad)) turns 0 [] S1).bind fun acc S2 => alloc S2 (.lst acc)
    | .dct ks vs => (evP (fun e S => ev P n e ρ S) ks vs S).bind fun ps S1 => (match keysA ps with
      | some kvs => if kvs.length ≤ 15 then alloc S1 (.dct (mergeA [] kvs)) else .bad
      | none => .bad)
    | .dc ke ve tg src ifs own => (srcA (fun e S => ev P n e ρ S) src S).bind fun it S1 =>
        (loopI it (fun v acc S => (match asgC own tg v (wipeA ρ own) with
          | some ρ1 => ((evT (fun e S => ev P n e ρ1 S) ifs S).bind fun b S3 => if b then (ev P n ke ρ1 S3).bind fun y S4 => (ev P n ve ρ1 S4).bind fun z S5 => (match keyOf y with
              | some k => if acc.length < sizeLine then .ok (putKA acc k z) S5 else .bad
              | none => .bad) else .ok acc S3).nox
          | none => .bad)) turns 0 [] S1).bind fun acc S2 => alloc S2 (.dct acc)
    | .lc2 elt tg src ifs tg1 src1 ifs1 own own1 => (srcA (fun e S => ev P n e ρ S) src S).bind fun it S1 =>
        (loopI it (fun v acc S => (match asgC own tg v (wipeA ρ own) with
          | some ρ1 => ((evT (fun e S => ev P n e ρ1 S) ifs S).bind fun b S3 => if b then (srcA (fun e S => ev P n e ρ1 S) src1 S3).bind fun it1 S4 =>
              loopI it1 (fun v1 acc S => (match asgC own1 tg1 v1 (wipeA ρ1 own1) with
                | some ρ2 => (evT (fun e S => ev P n e ρ2 S) ifs1 S).bind fun b S3 => if b then (ev P n elt ρ2 S3).bind fun x S4 => if acc.length < sizeLine then .ok (acc ++ [x]) S4 else .bad else .ok acc S3
                | none => .bad)) turns 0 acc S4 else .ok acc S3).nox
          | none => .bad)) turns 0 [] S1).bind fun acc S2 => alloc S2 (.lst acc)
    | _ => .bad

inductive Fl where
  | nx (ρ : Ev)
  | rt (v : AV)
  | bk (ρ : Ev)
  | ct (ρ : Ev)
/-- the end of a statement; an exception bears the slots -/
inductive Re where
  | fl (f : Fl) (S : Hs)
  | exc (x : AX) (ρ : Ev) (S : Hs)
  | bad
def Rs.st {α : Type} (r : Rs α) (ρ : Ev) (f : α → Hs → Re) : Re := match r with
  | .ok a S => f a S
  | .exc x S => .exc x ρ S
  | .bad => .bad
def Re.seq (r : Re) (f : Ev → Hs → Re) : Re := match r with
  | .fl (.nx ρ) S => f ρ S
  | r => r
def exs (f : St → Ev → Hs → Re) : List St → Ev → Hs → Re
  | [], ρ, S => .fl (.nx ρ) S
  | s :: r, ρ, S => (f s ρ S).seq fun ρ1 S1 => exs f r ρ1 S1
/-- behind a loop's body -/
def turnR (r : Re) (k : Ev → Hs → Re) : Re := match r with
  | .fl (.nx ρ) S => k ρ S
  | .fl (.ct ρ) S => k ρ S
  | .fl (.bk ρ) S => .fl (.nx ρ) S
  | r => r
/-- turns of a for -/
def forI (it : Itr) (f : AV → Ev → Hs → Re) : Nat → Nat → Ev → Hs → Re
  | 0, _, _, _ => .bad
  | m + 1, i, ρ, S => match it.at i S with
    | none => .bad
    | some none => .fl (.nx ρ) S
    | some (some v) => turnR (f v ρ S) fun ρ1 S1 => forI it f m (i + 1) ρ1 S1
def whlI (c : Ev → Hs → Rs Bool) (f : Ev → Hs → Re) : Nat → Ev → Hs → Re
  | 0, _, _ => .bad
  | m + 1, ρ, S => (c ρ S).st ρ fun v S1 => if v then turnR (f ρ S1) (fun ρ1 S2 => whlI c f m ρ1 S2) else .fl (.nx ρ) S1
def ex (P : Pe) : Nat → St → Ev → Hs → Re
  | 0, _, _, _ => .bad
  | n + 1, s, ρ, S => match s with
    | .asg t e => (ev P n e ρ S).st ρ fun v S1 => (asg P.G (fun e ρ S => ev P n e ρ S) n t v ρ S1).st ρ fun ρ1 S2 => .fl (.nx ρ1) S2
    | .aug i op e => .bad
    | .bad => .bad
    | .expr e => (ev P n e ρ S).st ρ fun _ S1 => .fl (.nx ρ) S1
    | .ife c a b => ((ev P n c ρ S).bind tstA).st ρ fun v S1 => if v then exs (fun s ρ S => ex P n s ρ S) a ρ S1 else exs (fun s ρ S => ex P n s ρ S) b ρ S1
    | .for_ t src b => (srcA (fun e S => ev P n e ρ S) src S).st ρ fun it S1 =>
        forI it (fun v ρ S => (asg P.G (fun e ρ S => ev P n e ρ S) n t v ρ S).st ρ fun ρ1 S2 => exs (fun s ρ S => ex P n s ρ S) b ρ1 S2) turns 0 ρ S1
    | .whl c b => whlI (fun ρ S => (ev P n c ρ S).bind tstA) (fun ρ S => exs (fun s ρ S => ex P n s ρ S) b ρ S) turns ρ S
    | .ret none => .fl (.rt .non) S
    | .ret (some e) => (ev P n e ρ S).st ρ fun v S1 => .fl (.rt v) S1
    | .pass => .fl (.nx ρ) S
    | .brk => .fl (.bk ρ) S
    | .cnt => .fl (.ct ρ) S
/-- a def's body -/
structure Fb where
  n : Nat
  np : Nat
  body : List St
def depth0 : Nat := 400
def runFn (P : Pe) (f : Fb) (vs : List AV) (S : Hs) : Rs AV :=
  if vs.length = f.np then (match exs (fun s ρ S => ex P depth0 s ρ S) f.body (vs.map some ++ List.replicate (f.n - vs.length) none) S with
    | .fl (.nx _) S' => .ok .non S'
    | .fl (.rt v) S' => .ok v S'
    | .exc x _ S' => .exc x S'
    | _ => .bad) else .bad
mutual
def noRef : AV → Bool
  | .ref _ => false
  | .tup xs => noRefs xs
  | _ => true
def noRefs : List AV → Bool
  | [] => true
  | x :: xs => noRef x && noRefs xs
end
mutual
def shV (n : Nat) : AV → AV
  | .ref i => .ref (n + i)
  | .tup xs => .tup (shVs n xs)
  | v => v
def shVs (n : Nat) : List AV → List AV
  | [] => []
  | x :: xs => shV n x :: shVs n xs
end
def shO (n : Nat) : AO → AO
  | .lst xs => .lst (shVs n xs)
  | .dct kvs => .dct (kvs.map fun p => (p.1, shV n p.2))
  | .dtt kvs => .dtt (kvs.map fun p => (p.1, shV n p.2))
  | .ins c fs => .ins c (fs.map fun p => (p.1, shV n p.2))
  | .lck o => .lck (shO n o)
  | .exo c d => .exo c (d.map (n + ·))
  | .xdc fs => .xdc (fs.map fun p => (p.1, shV n p.2))
def appG (m : Nat) (g : Nat → Option AO) : Nat → Nat → Hs → Hs
  | 0, _, S => S
  | k + 1, i, S => appG m g k (i + 1) (match g i with
    | some o => S.push (shO m o)
    | none => S.push (.lst []))
def appH (S S1 : Hs) : Hs := appG S.n S1.get S1.n 0 S
def liftG (S : Hs) : Rs AV → Rs AV
  | .ok v S1 => .ok (shV S.n v) (appH S S1)
  | _ => .bad
def callN (G : Gx) (fb : List Fb) : Nat → Nat → List AV → Hs → Rs AV
  | 0, _, _, _ => .bad
  | d + 1, k, vs, S => match fb[k]? with
    | some f => if (G.grd.contains k && noRefs vs) = true then liftG S (runFn ⟨G, callN G fb d⟩ f vs ⟨.nil, 0⟩) else runFn ⟨G, callN G fb d⟩ f vs S
    | none => .bad
end Ab

namespace Ab
open PySem L2

/-- a def's promise where nothing is being shown (no repr is under way) -/
structure FnG (P : Program) (w : World) (K : PySem.W.Frag) (mg : Str → Option Value) (base : Heap) (CX : CXT) (k : Nat) (f : Addr) (fd : FuncData) (ps : List Str) (sp : Sp) : Prop where
  len : ∀ vs H Q E, sp vs H Q E → vs.length = ps.length
  run : ∀ (A : Around) (outer : List Env) (s : Shared) (H : Hp) (args : Args) (us : List Value) (vs : List V) (Q : VK) (E : XK), Room k A → A.guards = some [] → Env0 P w K mg base A outer s H → BindsTo s fd args (ps.zip us) → Vals vs us → sp vs H Q E →
    codeAny (model P w) A (.call (.ref f) args) (CR CX outer P w H s Q E) s
theorem FnG.imp {P : Program} {w : World} {K : PySem.W.Frag} {mg : Str → Option Value} {base : Heap} {CX : CXT} {k : Nat} {f : Addr} {fd : FuncData} {ps : List Str} {sp sp' : Sp} (F : FnG P w K mg base CX k f fd ps sp) (h : ∀ vs H Q E, sp' vs H Q E → sp vs H Q E) : FnG P w K mg base CX k f fd ps sp' :=
  ⟨fun vs H Q E q => F.len vs H Q E (h vs H Q E q), fun A outer s H args us vs Q E r g e b v q => F.run A outer s H args us vs Q E r g e b v (h vs H Q E q)⟩
theorem make_guards {A : Around} {C : Addr} {us : List Value} {kw : List (Str × Value)} : (A.under (.builtin "type.__call__" ⟨.ref C :: us, kw⟩)).guards = A.guards := by
  first | rfl | (cases h : A.guards <;> simp [Around.under, pushGuards, Code.guards, Code.isGuard, guardIds, h])
theorem deeper_guards {A : Around} {env : Env} : (A.deeper env).guards = A.guards := by
  first | rfl | (cases h : A.guards <;> simp [Around.deeper, h])
/-- a def's promise by the interpreter -/
def spC (K : PySem.W.Frag) (P : Pe) (k : Nat) : Sp := fun ws H Q E => ∃ (ι : Nat → Addr) (S : Hs) (vs : List AV), RH K P.G ι S H ∧ RVs K P.G ι S.n H vs ws ∧
  Aft K P.G (fun ι m H (x : AV) (v : V) => RV K P.G ι m H x v) Q E ι S H (P.C k vs S)
/-- built-in names -/
def bltN : List Str := ["len", "all", "any", "sum", "tuple", "list", "int", "repr", "max", "min", "isinstance", "str", "sorted", "dict", "abs", "set", "range", "enumerate", "zip", "super", "bool", "ValueError", "LookupError"]
def btyN : Bty → String
  | .non => "NoneType"
  | .bool => "bool"
  | .int => "int"
  | .str => "str"
  | .tuple => "tuple"
  | .list => "list"
  | .dict => "dict"
  | .verr => "ValueError"
  | .lerr => "LookupError"
def tyVal (K : PySem.W.Frag) (G : Gx) : Ty → Value
  | .b t => .type (btyN t)
  | .c k => (match G.cls[k]? with
    | some c => .ref (He.ga K c.name)
    | none => .none)
/-- what is known of an own exception class -/
structure XcF (K : PySem.W.Frag) (G : Gx) (c : Cl) : Prop where
  xc : ∃ B newId initId bmB, Xc K (He.ga K c.name) B newId initId bmB
  fl : ∀ f, c.xf.contains f = true → ∃ x, G.nms[f]? = some x ∧ PySem.W.findIn K (.ref (He.ga K c.name)) x = some none
  ix : ∀ i, c.xi = some i → ∃ fa, G.fns[i]? = some fa ∧ kwOf G i = [] ∧ PySem.W.findIn K (.ref (He.ga K c.name)) "__init__" = some (some (.ref (He.fAd K fa))) ∧ PySem.W.typeIn K (.ref (He.fAd K fa)) = some (.type "function")
/-- what is known of the module -/
structure MF (P : Pe) (d : Nat) (X : Cx) : Prop where
  free : ∀ x ∈ bltN, X.mg x = none
  fn : ∀ k f, P.G.fns[k]? = some f → ∃ fd ps, FnG X.prog X.w X.K X.mg X.base (CX X.prog X.w) d (He.fAd X.K f) fd ps (spC X.K P k) ∧ BdG X.K fd ps (kwOf P.G k) ∧ PySem.W.keepIn X.K (.ref (He.fAd X.K f)) = true
  glo : ∀ (k : Nat) (x : Str), P.G.fns[k]? = some (x, none) → X.mg x = some (.ref (He.fAd X.K (x, none)))
  clg : ∀ (k : Nat) (c : Cl), P.G.cls[k]? = some c → X.mg c.name = some (.ref (He.ga X.K c.name))
  fld : ∀ (k f : Nat) (c : Cl), P.G.cls[k]? = some c → c.flds.contains f = true → ∃ x, P.G.nms[f]? = some x ∧ NoAttr X.K (He.ga X.K c.name) x ∧ Cls X.K (He.ga X.K c.name)
  nnd : P.G.nms.Nodup
  pln : ∀ (k : Nat) (c : Cl), P.G.cls[k]? = some c → c.plain = true → Cls X.K (He.ga X.K c.name) ∧ PySem.W.findIn X.K (.ref (He.ga X.K c.name)) "__class__" = some (some (.builtin "object.__class__")) ∧ PySem.W.mroIn X.K (He.ga X.K c.name) (.type "object") = some true
  obg : PySem.W.specialIn X.K (.builtin "object.__class__") "__get__" = some (some (.builtin "getset_descriptor.__get__")) ∧ PySem.W.takesIn X.K (.builtin "object.__class__") = some true
  isi : ∀ (t u : Ty) (b : Bool), isTy P.G t u = some b → PySem.W.kitOne X.K (tyVal X.K P.G t) (tyVal X.K P.G u) = some b
  cst : ∀ (k : Nat) (x : Str) (v : AV), P.G.cons[k]? = some (x, v) → ∃ u w, X.mg x = some u ∧ RelV w u ∧ ∀ ι m H, RV X.K P.G ι m H v w
  mth : ∀ (f k i : Nat) (x : Str) (c : Cl), P.G.nms[f]? = some x → P.G.cls[k]? = some c → c.meths.lookup f = some i → ∃ fa, P.G.fns[i]? = some fa ∧ Meth X.K (He.ga X.K c.name) x (He.fAd X.K fa) ∧ Cls X.K (He.ga X.K c.name) ∧ kwOf P.G i = []
  mkf : ∀ (k i : Nat) (c : Cl), P.G.cls[k]? = some c → c.ini = some i → ∃ fa, P.G.fns[i]? = some fa ∧ Mk X.K (He.ga X.K c.name) (He.fAd X.K fa)
  xcf : ∀ (k : Nat) (c : Cl), P.G.cls[k]? = some c → c.xb ≠ 0 → XcF X.K P.G c
/-- a context in which the interpreter speaks -/
structure Good (P : Pe) (d : Nat) (W : WX) (X : Cx) : Prop where
  mf : MF P d X
  calm : X.calm = true
  nd : X.N.Nodup
  room : Room (d + 1) X.A
  tk : Takes X W
  own : PassesOwn (model X.prog X.w) X.A X.env X.xe
  gd : X.A.guards = some []

def SndE (P : Pe) (W : WX) (X : Cx) (n : Nat) (e : E) (x : Expr) : Prop := ∀ (ι : Nat → Addr) (S : Hs) (ρ : Ev) (σ : L2.St) (H : Hp) (Q : VK), RH X.K P.G ι S H → RE X.K P.G ι S.n H ρ σ →
  Aft X.K P.G (RVg X P.G) Q (fun c d H' => W c d σ H') ι S H (ev P n e ρ S) → tW X x σ H Q

section
variable {P : Pe} {d n : Nat} {W : WX} {X : Cx} {pos : Pos} {a b c : E} {xa xb xc : Expr}
theorem snd_zero {e : E} {x : Expr} : SndE P W X 0 e x := fun _ _ _ _ _ _ _ _ h => h.elim
theorem snd_cst {v : AV} {k : Const} {j : Nat} (h : ∀ ι m H, ∃ w, RV X.K P.G ι m H v w ∧ PE X (.Constant k j pos) (tC w)) : SndE P W X (n + 1) (.cst v) (.Constant k j pos) := fun ι S ρ σ H Q rh re h' => by
  obtain ⟨w, r, p⟩ := h ι S.n H
  exact tW.of p (Aft.now (R := RVg X P.G) h' rh r)
theorem snd_var {i : Nat} {x : Str} (hN : X.N[i]? = some x) (hv : Vis X.env.scope x) (h1 : (x == ("__debug__" : Str)) = false) (h2 : (x == ("__classdict__" : Str)) = false) : SndE P W X (n + 1) (.var i) (.Name x pos) := fun ι S ρ σ H Q rh re h => by
  have h' : Aft X.K P.G (RVg X P.G) Q (fun c d H' => W c d σ H') ι S H (match ρ[i]? with | some (some v) => .ok v S | _ => .bad) := h
  cases e : ρ[i]? with
  | none => rw [e] at h'; exact h'.elim
  | some o =>
    cases o with
    | none => rw [e] at h'; exact h'.elim
    | some v =>
      rw [e] at h'
      obtain ⟨w, e1, r⟩ := re.at_ i v e
      exact tW.of (pe_var hN hv h1 h2) ⟨w, e1, h'.now rh r⟩
theorem snd_gc (g : MF P d X) {k : Nat} {x : Str} {v : AV} (hk : P.G.cons[k]? = some (x, v)) (hg : Gl X x) (h1 : (x == ("__debug__" : Str)) = false) : SndE P W X (n + 1) (.gc k) (.Name x pos) := fun ι S ρ σ H Q rh re h => by
  have h' : Aft X.K P.G (RVg X P.G) Q (fun c d H' => W c d σ H') ι S H (match P.G.cons[k]? with | some c => .ok c.2 S | none => .bad) := h
  rw [hk] at h'
  obtain ⟨u, w, e1, r1, r2⟩ := g.cst k x v hk
  exact tW.of (pe_glob hg e1 r1 h1) (Aft.now (R := RVg X P.G) h' rh (r2 ι S.n H))
theorem snd_gf (g : MF P d X) {k : Nat} {x : Str} (hk : P.G.fns[k]? = some (x, none)) (hg : Gl X x) (h1 : (x == ("__debug__" : Str)) = false) : SndE P W X (n + 1) (.gf k) (.Name x pos) := fun ι S ρ σ H Q rh re h =>
  tW.of (pe_glob hg (g.glo k x hk) (v := .ref (He.fAd X.K (x, none))) rfl h1) (Aft.now (R := RVg X P.G) h rh (.fn hk))
theorem snd_gk (g : MF P d X) {k : Nat} {cl : Cl} (hk : P.G.cls[k]? = some cl) (hg : Gl X cl.name) (h1 : (cl.name == ("__debug__" : Str)) = false) : SndE P W X (n + 1) (.gk k) (.Name cl.name pos) := fun ι S ρ σ H Q rh re h =>
  tW.of (pe_glob hg (g.clg k cl hk) (v := .ref (He.ga X.K cl.name)) rfl h1) (Aft.now (R := RVg X P.G) h rh (.cl hk))
theorem snd_ty (g : MF P d X) {s : String} {x : Str} (hx : x ∈ bltN) (hb : bootBuiltins x = some (.type s)) (hg : Gl X x) (h1 : (x == ("__debug__" : Str)) = false) (h2 : x ≠ "__name__") : SndE P W X (n + 1) (.ty s) (.Name x pos) := fun ι S ρ σ H Q rh re h =>
  tW.of (pe_bltn hg (g.free x hx) hb (v := .ty s) rfl h2 h1) (Aft.now (R := RVg X P.G) h rh (.ty s))
theorem snd_bin {op : Operator} (ha : SndE P W X n a xa) (hb : SndE P W X n b xb) : SndE P W X (n + 1) (.bin op a b) (.BinOp xa op xb pos) := fun ι S ρ σ H Q rh re h => by
  refine tW.of (pe_op (oprW (X := X) (f := binaryOp op)) peW peW) ?_
  refine ha ι S ρ σ H _ rh re (Aft.bind h fun x S1 _ ι1 H1 w1 rh1 le1 r1 h1 => ?_)
  refine hb ι1 S1 ρ σ H1 _ rh1 (re.mono le1) (Aft.bind h1 fun y S2 _ ι2 H2 w2 rh2 le2 r2 h2 => ?_)
  exact binA_ok rh2 (RV.mono le2 r1) r2 h2
theorem tst_ok {α β : Type} {R : Rl α β} {Q : β → Hp → Prop} {W' : Value → Option Addr → Hp → Prop} {ι : Nat → Addr} {S : Hs} {H : Hp} {x : AV} {w : V} {f : Bool → Hs → Rs α} (r : RV X.K P.G ι S.n H x w)
    (h : Aft X.K P.G R Q W' ι S H ((tstA x S).bind f)) : ∃ b, w = .bl b ∧ Aft X.K P.G R Q W' ι S H (f b S) := by
  cases r with
  | bl b => exact ⟨b, rfl, h⟩
  | _ => exact h.elim
theorem snd_not (ha : SndE P W X n a xa) : SndE P W X (n + 1) (.not a) (.UnaryOp .Not xa pos) := fun ι S ρ σ H Q rh re h => by
  refine tW.of (pe_not peW) ?_
  refine ha ι S ρ σ H _ rh re (Aft.bind h fun x S1 _ ι1 H1 w1 rh1 le1 r1 h1 => ?_)
  obtain ⟨b, rfl, h2⟩ := tst_ok r1 h1
  exact ⟨b, rfl, Aft.now (R := RVg X P.G) h2 rh1 (.bl _)⟩
theorem snd_and {xs : List Expr} (ha : SndE P W X n a xa) (hb : SndE P W X n b (.BoolOp .And (xb :: xs) pos)) : SndE P W X (n + 1) (.and a b) (.BoolOp .And (xa :: xb :: xs) pos) := fun ι S ρ σ H Q rh re h => by
  refine tW.of (pe_and peW peW) ?_
  refine ha ι S ρ σ H _ rh re (Aft.bind h fun x S1 _ ι1 H1 w1 rh1 le1 r1 h1 => ?_)
  obtain ⟨c, rfl, h2⟩ := tst_ok r1 h1
  refine ⟨c, rfl, ?_⟩
  cases c with
  | true => rw [if_pos rfl] at h2 ⊢; exact hb ι1 S1 ρ σ H1 Q rh1 (re.mono le1) h2
  | false => rw [if_neg Bool.false_ne_true] at h2 ⊢; exact Aft.now (R := RVg X P.G) h2 rh1 (.bl _)
theorem snd_or {xs : List Expr} (ha : SndE P W X n a xa) (hb : SndE P W X n b (.BoolOp .Or (xb :: xs) pos)) : SndE P W X (n + 1) (.or a b) (.BoolOp .Or (xa :: xb :: xs) pos) := fun ι S ρ σ H Q rh re h => by
  refine tW.of (pe_or peW peW) ?_
  refine ha ι S ρ σ H _ rh re (Aft.bind h fun x S1 _ ι1 H1 w1 rh1 le1 r1 h1 => ?_)
  obtain ⟨c, rfl, h2⟩ := tst_ok r1 h1
  refine ⟨c, rfl, ?_⟩
  cases c with
  | true => rw [if_pos rfl] at h2 ⊢; exact Aft.now (R := RVg X P.G) h2 rh1 (.bl _)
  | false => rw [if_neg Bool.false_ne_true] at h2 ⊢; exact hb ι1 S1 ρ σ H1 Q rh1 (re.mono le1) h2
theorem snd_one {op : BoolOp} {e : E} (h : SndE P W X n e xa) : SndE P W X n e (.BoolOp op [xa] pos) := fun ι S ρ σ H Q rh re h' => tW.of (pe_one peW) (h ι S ρ σ H Q rh re h')
theorem snd_cmp (g : Good P d W X) {op : CmpOp} (ha : SndE P W X n a xa) (hb : SndE P W X n b xb) (hm : behindInMarks op xb = false) : SndE P W X (n + 1) (.cmp op a b) (.Compare xa [op] [xb] pos) := fun ι S ρ σ H Q rh re h => by
  refine tW.of (pe_cmpR (oprW (X := X) (f := compareOp op)) peW peW hm) ?_
  refine ha ι S ρ σ H _ rh re (Aft.bind h fun x S1 _ ι1 H1 w1 rh1 le1 r1 h1 => ?_)
  refine hb ι1 S1 ρ σ H1 _ rh1 (re.mono le1) (Aft.bind h1 fun y S2 _ ι2 H2 w2 rh2 le2 r2 h2 => ?_)
  cases e : cmpA op x y S2 with
  | none => rw [e] at h2; exact h2.elim
  | some k => rw [e] at h2; exact cmpA_ok g.room.units rh2 (RV.mono le2 r1) r2 e (Aft.now (R := RVg X P.G) h2 rh2 (.bl _))
theorem snd_cmp2 (g : Good P d W X) {op op' : CmpOp} (ha : SndE P W X n a xa) (hb : SndE P W X n b xb) (hc : SndE P W X n c xc) (hm : lastMarks [op, op'] [xb, xc] = false) : SndE P W X (n + 1) (.cmp2 op op' a b c) (.Compare xa [op, op'] [xb, xc] pos) := fun ι S ρ σ H Q rh re h => by
  refine tW.of (pe_chain (oprW (X := X) (f := compareOp op)) (oprW (X := X) (f := compareOp op')) peW peW peW (hm := hm)) ?_
  refine ha ι S ρ σ H _ rh re (Aft.bind h fun x S1 _ ι1 H1 w1 rh1 le1 r1 h1 => ?_)
  refine hb ι1 S1 ρ σ H1 _ rh1 (re.mono le1) (Aft.bind h1 fun y S2 _ ι2 H2 w2 rh2 le2 r2 h2 => ?_)
  cases e : cmpA op x y S2 with
  | none => rw [e] at h2; exact h2.elim
  | some k =>
    rw [e] at h2
    refine cmpA_ok g.room.units rh2 (RV.mono le2 r1) r2 e ⟨k, rfl, ?_⟩
    cases k with
    | true =>
      rw [if_pos rfl]
      refine hc ι2 S2 ρ σ H2 _ rh2 ((re.mono le1).mono le2) (Aft.bind h2 fun z S3 _ ι3 H3 w3 rh3 le3 r3 h3 => ?_)
      cases e' : cmpA op' y z S3 with
      | none => rw [e'] at h3; exact h3.elim
      | some k' => rw [e'] at h3; exact cmpA_ok g.room.units rh3 (RV.mono le3 r2) r3 e' (Aft.now (R := RVg X P.G) h3 rh3 (.bl _))
    | false =>
      rw [if_neg Bool.false_ne_true]
      exact Aft.now (R := RVg X P.G) h2 rh2 (.bl _)
end
end Ab

namespace Ab
open PySem L2

def isStarX : Expr → Bool
  | .Starred .. => true
  | _ => false
theorem starEach_cons {x : Expr} {xs : List Expr} {env : Env} (h : isStarX x = false) : starEach (x :: xs) env = (false, eval x env) :: starEach xs env := by
  cases x <;> first | rfl | cases h
/-- arguments without stars -/
theorem noStars {env : Env} {pos : Pos} : ∀ {xs : List Expr}, xs.all (fun x => !isStarX x) = true → (backTo pos (starEach xs env)).any (·.1) = false
  | [], _ => rfl
  | x :: xs, h => by
    rw [List.all_cons, Bool.and_eq_true] at h
    rw [starEach_cons (by simpa using h.1)]
    show (false || (backTo pos (starEach xs env)).any (·.1)) = false
    rw [noStars h.2]; rfl

/-- expressions of a list, one by one -/
inductive All2 {α β : Type} (R : α → β → Prop) : List α → List β → Prop
  | nil : All2 R [] []
  | cons {a : α} {b : β} {as : List α} {bs : List β} : R a b → All2 R as bs → All2 R (a :: as) (b :: bs)

section
variable {P : Pe} {d n : Nat} {W : WX} {X : Cx} {pos : Pos} {a b c : E} {xa xb xc : Expr}
abbrev RVsX (X : Cx) (P : Pe) : Rl (List AV) (List V) := fun ι m H x v => RVs X.K P.G ι m H x v
/-- arguments -/
theorem snd_args {ρ : Ev} {σ : L2.St} : ∀ {es : List E} {xs : List Expr}, All2 (SndE P W X n) es xs → xs.all (fun x => !isStarX x) = true → ∀ (ι : Nat → Addr) (S : Hs) (H : Hp) (Q : List V → Hp → Prop), RH X.K P.G ι S H → RE X.K P.G ι S.n H ρ σ →
    Aft X.K P.G (RVsX X P) Q (fun c d H' => W c d σ H') ι S H (evL (fun e S => ev P n e ρ S) es S) → tWa X xs σ H Q
  | _, _, .nil, _ => fun ι S H Q rh re h => tWa.of pa_nil (Aft.now (R := RVsX X P) h rh .nil)
  | _, _, .cons ha hr, hs => fun ι S H Q rh re h => by
    rw [List.all_cons, Bool.and_eq_true] at hs
    refine tWa.of (pa_cons peW paW (starEach_cons (by simpa using hs.1))) ?_
    refine ha ι S ρ σ H _ rh re (Aft.bind h fun v S1 _ ι1 H1 w1 rh1 le1 r1 h1 => ?_)
    refine snd_args hr hs.2 ι1 S1 H1 _ rh1 (re.mono le1) (Aft.bind (Ra := RVsX X P) h1 fun vs S2 _ ι2 H2 ws rh2 le2 r2 h2 => ?_)
    exact Aft.now (R := RVsX X P) h2 rh2 (.cons (RV.mono le2 r1) r2)
/-- an item of a display -/
def SndS (P : Pe) (W : WX) (X : Cx) (n : Nat) (e : E) (x : Expr) : Prop := match isStar e with
  | some e' => ∃ y p, x = .Starred y p ∧ SndE P W X n e' y
  | none => isStarX x = false ∧ SndE P W X n e x
theorem snd_items {ρ : Ev} {σ : L2.St} : ∀ {es : List E} {xs : List Expr}, All2 (SndS P W X n) es xs → ∀ (ι : Nat → Addr) (S : Hs) (H : Hp) (Q : List V → Hp → Prop), RH X.K P.G ι S H → RE X.K P.G ι S.n H ρ σ →
    Aft X.K P.G (RVsX X P) Q (fun c d H' => W c d σ H') ι S H (evS (fun e S => ev P n e ρ S) es S) → tWa X xs σ H Q
  | _, _, .nil => fun ι S H Q rh re h => tWa.of pa_nil (Aft.now (R := RVsX X P) h rh .nil)
  | _, _, .cons (a := e) (b := x) (as := es) ha hr => fun ι S H Q rh re h => by
    cases hs : isStar e with
    | none =>
      have ha' : isStarX x = false ∧ SndE P W X n e x := by simpa [SndS, hs] using ha
      have h' : Aft X.K P.G (RVsX X P) Q (fun c d H' => W c d σ H') ι S H ((ev P n e ρ S).bind fun v S1 => (evS (fun e S => ev P n e ρ S) es S1).bind fun vs S2 => .ok (v :: vs) S2) := by
        unfold evS at h; rw [hs] at h; exact h
      refine tWa.of (pa_cons peW paW (starEach_cons ha'.1)) ?_
      refine ha'.2 ι S ρ σ H _ rh re (Aft.bind h' fun v S1 _ ι1 H1 w1 rh1 le1 r1 h1 => ?_)
      refine snd_items hr ι1 S1 H1 _ rh1 (re.mono le1) (Aft.bind (Ra := RVsX X P) h1 fun vs S2 _ ι2 H2 ws rh2 le2 r2 h2 => ?_)
      exact Aft.now (R := RVsX X P) h2 rh2 (.cons (RV.mono le2 r1) r2)
    | some e' =>
      have ha' : ∃ y p, x = .Starred y p ∧ SndE P W X n e' y := by simpa [SndS, hs] using ha
      obtain ⟨y, p, rfl, hy⟩ := ha'
      have h' : Aft X.K P.G (RVsX X P) Q (fun c d H' => W c d σ H') ι S H ((ev P n e' ρ S).bind fun v S1 => (match seqOf S1 v with
        | some vs => (evS (fun e S => ev P n e ρ S) es S1).bind fun ws S2 => .ok (vs ++ ws) S2
        | none => .bad)) := by
        unfold evS at h; rw [hs] at h; exact h
      refine tWa.of (StX.pa_star peW paW rfl) ?_
      refine hy ι S ρ σ H _ rh re (Aft.bind h' fun v S1 _ ι1 H1 w1 rh1 le1 r1 h1 => ?_)
      cases e1 : seqOf S1 v with
      | none => rw [e1] at h1; exact h1.elim
      | some vs =>
        rw [e1] at h1
        obtain ⟨q, us, rfl, sq, rs⟩ := seqOf_rel rh1 r1 e1
        refine ⟨q, us, rfl, sq.symm, ?_⟩
        refine snd_items hr ι1 S1 H1 _ rh1 (re.mono le1) (Aft.bind (Ra := RVsX X P) h1 fun ws S2 _ ι2 H2 zs rh2 le2 r2 h2 => ?_)
        exact Aft.now (R := RVsX X P) h2 rh2 ((rs.mono le2).append r2)
theorem snd_tup {es : List E} {xs : List Expr} {k : Nat} (ha : All2 (SndS P W X n) es xs) : SndE P W X (n + 1) (.tup es) (.Tuple xs k pos) := fun ι S ρ σ H Q rh re h => by
  refine tW.of (pe_tup paW) ?_
  refine snd_items ha ι S H _ rh re (Aft.bind (Ra := RVsX X P) h fun vs S1 _ ι1 H1 ws rh1 le1 r1 h1 => ?_)
  split at h1
  · rename_i c
    exact ⟨by rw [← RVs.length r1]; exact of_decide_eq_true c, h1.tuple rh1 r1⟩
  · exact h1.elim
theorem snd_lst {es : List E} {xs : List Expr} (ha : All2 (SndS P W X n) es xs) : SndE P W X (n + 1) (.lst es) (.List xs pos) := fun ι S ρ σ H Q rh re h => by
  refine tW.of (pe_lst paW) ?_
  refine snd_items ha ι S H _ rh re (Aft.bind (Ra := RVsX X P) h fun vs S1 _ ι1 H1 ws rh1 le1 r1 h1 => ?_)
  split at h1
  · rename_i c
    exact ⟨by rw [← RVs.length r1]; exact of_decide_eq_true c, h1.list rh1 r1⟩
  · exact h1.elim

theorem atI_rel {K : PySem.W.Frag} {G : Gx} {ι : Nat → Addr} {m : Nat} {H : Hp} {xs : List AV} {vs : List V} (r : RVs K G ι m H xs vs) {i : Int} {v : AV} (e : atI xs i = some v) : ∃ w, atI vs i = some w ∧ RV K G ι m H v w := by
  unfold atI at e ⊢
  rw [← r.length]
  cases h : ixN xs.length i with
  | none => rw [h] at e; cases e
  | some j =>
    rw [h] at e
    exact r.get e
def noSl : Expr → Bool
  | .Slice .. => false
  | .Tuple .. => false
  | _ => true
theorem plainIx {x : Expr} (h : noSl x = true) : PlainIx x := fun o i => by
  cases x <;> first | rfl | cases h
theorem snd_idx (g : Good P d W X) (ha : SndE P W X n a xa) (hb : SndE P W X n b xb) (hs : noSl xb = true) (hs2 : NoSl xb) : SndE P W X (n + 1) (.idx a b) (.Subscript xa xb pos) := fun ι S ρ σ H Q rh re h => by
  by_cases hd : ∃ x S1 y S2, ev P n a ρ S = .ok x S1 ∧ ev P n b ρ S1 = .ok y S2 ∧ seqOf S2 x = none
  · obtain ⟨x, S1, y, S2, e1, e2, e3⟩ := hd
    refine tW.of (pe_dget (by have := g.room.units; omega) peW peW hs2) ?_
    refine ha ι S ρ σ H _ rh re (Aft.bind h fun x' S1' e1' ι1 H1 w1 rh1 le1 r1 h1 => ?_)
    rw [e1] at e1'; cases e1'
    refine hb ι1 S1 ρ σ H1 _ rh1 (re.mono le1) (Aft.bind h1 fun y' S2' e2' ι2 H2 w2 rh2 le2 r2 h2 => ?_)
    rw [e2] at e2'; cases e2'
    unfold idxA at h2
    rw [e3] at h2
    cases e4 : dictOf S2 x with
    | none => rw [e4] at h2; exact h2.elim
    | some kvs =>
      cases e5 : keyOf y with
      | none => rw [e4, e5] at h2; exact h2.elim
      | some k =>
        rw [e4, e5] at h2
        obtain ⟨q, o, rfl, dg, _, hv⟩ := dget_rel rh2 (RV.mono le2 r1) r2 e4 e5
        cases e6 : getK kvs k with
        | none => simp only [e6] at h2; exact h2.elim
        | some v =>
          simp only [e6] at h2
          obtain ⟨w, rfl, rv⟩ := hv v e6
          exact ⟨q, w, rfl, dg, Aft.now (R := RVg X P.G) h2 rh2 rv⟩
  · refine tW.of (pe_ix ix_seq peW peW (plainIx hs)) ?_
    refine ha ι S ρ σ H _ rh re (Aft.bind h fun x S1 e1 ι1 H1 w1 rh1 le1 r1 h1 => ?_)
    refine hb ι1 S1 ρ σ H1 _ rh1 (re.mono le1) (Aft.bind h1 fun y S2 e2 ι2 H2 w2 rh2 le2 r2 h2 => ?_)
    cases e3 : seqOf S2 x with
    | none => exact absurd ⟨x, S1, y, S2, e1, e2, e3⟩ hd
    | some xs =>
      unfold idxA at h2
      rw [e3] at h2
      cases r2 with
      | int i =>
        cases e4 : atI xs i with
        | none => simp only [e4] at h2; exact h2.elim
        | some z =>
          simp only [e4] at h2
          obtain ⟨q, us, rfl, sq, rs⟩ := seqOf_rel rh2 (RV.mono le2 r1) e3
          obtain ⟨w, hw, rw'⟩ := atI_rel rs e4
          have fin : Q w H2 := Aft.now (R := RVg X P.G) h2 rh2 rw'
          rcases sq with sq | sq
          · exact .inl ⟨q, us, i, w, rfl, rfl, sq, hw, fin⟩
          · exact .inr (.inl ⟨q, us, i, w, rfl, rfl, sq, hw, fin⟩)
      | str z =>
        have nd : dictOf S2 x = none := by
          cases x with
          | ref r =>
            have e3' : (match S2.get r with | some o => o.seq | none => none) = some xs := e3
            show (match S2.get r with | some o => o.dict | none => none) = none
            cases hg : S2.get r with
            | none => rfl
            | some o =>
              rw [hg] at e3'
              cases o with
              | lst _ => rfl
              | dct _ => cases e3'
              | dtt _ => cases e3'
              | ins _ _ => cases e3'
              | exo _ _ => cases e3'
              | xdc _ => cases e3'
              | lck o => cases o <;> first | rfl | cases e3'
          | _ => rfl
        simp only [nd] at h2
        exact h2.elim
      | _ => cases hdd : dictOf S2 x <;> simp only [hdd, keyOf] at h2 <;> exact h2.elim

def tWo (X : Cx) (o : Option Expr) : TO := fun σ H Q => ∀ (pins : List (Addr × Obj)) (s : Shared), Inv X pins σ H s → wpAny (model X.prog X.w) X.A (evalPart o X.env) (fun u s' => ∃ o H', Inv X pins σ H' s' ∧ IsPart u o ∧ Q o H') X.xe s
theorem poW {o : Option Expr} : PO X o (tWo X o) := ⟨fun pins s _ _ _ I h => h pins s I⟩
def SndO (P : Pe) (W : WX) (X : Cx) (n : Nat) : Option E → Option Expr → Prop
  | none, none => True
  | some e, some y => SndE P W X n e y
  | _, _ => False
theorem snd_part {ρ : Ev} {σ : L2.St} {o : Option E} {x : Option Expr} (ho : SndO P W X n o x) (ι : Nat → Addr) (S : Hs) (H : Hp) (Q : Option Int → Hp → Prop) (rh : RH X.K P.G ι S H) (re : RE X.K P.G ι S.n H ρ σ)
    (h : Aft X.K P.G (fun _ _ _ (a b : Option Int) => a = b) Q (fun c d H' => W c d σ H') ι S H (evO (fun e S => ev P n e ρ S) o S)) : tWo X x σ H Q := by
  cases o with
  | none =>
    cases x with
    | none => exact fun pins s I => po_none.run pins s σ H Q I (Aft.now (R := fun _ _ _ (a b : Option Int) => a = b) h rh rfl)
    | some y => exact ho.elim
  | some e =>
    cases x with
    | none => exact ho.elim
    | some y =>
      refine fun pins s I => (po_some peW).run pins s σ H Q I ?_
      refine ho ι S ρ σ H _ rh re (Aft.bind h fun v S1 _ ι1 H1 w1 rh1 le1 r1 h1 => ?_)
      cases r1 with
      | int i => exact ⟨i, rfl, Aft.now (R := fun _ _ _ (a b : Option Int) => a = b) h1 rh1 rfl⟩
      | _ => exact h1.elim
theorem cut_rel {K : PySem.W.Frag} {G : Gx} {ι : Nat → Addr} {m : Nat} {H : Hp} {xs : List AV} {vs : List V} (r : RVs K G ι m H xs vs) (lo hi : Option Int) : RVs K G ι m H (cutA xs lo hi) (cutV vs lo hi) := by
  unfold cutA cutV
  rw [← r.length]
  exact (r.drop _).take _
theorem seqAt_rel {K : PySem.W.Frag} {G : Gx} {ι : Nat → Addr} {S : Hs} {H : Hp} (rh : RH K G ι S H) {r : Nat} {xs : List AV} (e : seqAt S r = some xs) : ∃ vs, SqL K H (ι r) vs ∧ RVs K G ι S.n H xs vs := by
  unfold seqAt at e
  cases hg : S.get r with
  | none => rw [hg] at e; cases e
  | some o =>
    rw [hg] at e
    obtain ⟨u, h1, h2⟩ := rh.obj hg
    exact seq_rel e h1 h2
theorem snd_slc {lo hi : Option E} {xl xh : Option Expr} {p2 : Pos} (ha : SndE P W X n a xa) (hl : SndO P W X n lo xl) (hh : SndO P W X n hi xh) : SndE P W X (n + 1) (.slc a lo hi) (.Subscript xa (.Slice xl xh none p2) pos) := fun ι S ρ σ H Q rh re h => by
  refine tW.of (pe_slice (sl_list.or sl_tupA) peW poW poW) ?_
  refine ha ι S ρ σ H _ rh re (Aft.bind h fun x S1 _ ι1 H1 w1 rh1 le1 r1 h1 => ?_)
  refine snd_part hl ι1 S1 H1 _ rh1 (re.mono le1) (Aft.bind (Ra := fun _ _ _ (a b : Option Int) => a = b) h1 fun l S2 _ ι2 H2 l' rh2 le2 el h2 => ?_)
  subst el
  refine snd_part hh ι2 S2 H2 _ rh2 ((re.mono le1).mono le2) (Aft.bind (Ra := fun _ _ _ (a b : Option Int) => a = b) h2 fun u S3 _ ι3 H3 u' rh3 le3 eu h3 => ?_)
  subst eu
  have r3 := RV.mono (le2.trans le3) r1
  cases r3 with
  | @tup xs q vs sq rs =>
    have h4 : Aft X.K P.G (RVg X P.G) Q (fun c d H' => W c d σ H') ι3 S3 H3 (.ok (.tup (cutA xs l u)) S3) := h3
    refine .inr ⟨q, vs, rfl, sq, fun hw => ?_, fun _ => h4.tuple rh3 (cut_rel rs l u)⟩
    have ec : cutA xs l u = xs := by
      unfold cutA
      rw [rs.length, hw.1, hw.2, List.drop_zero, Nat.sub_zero, ← rs.length, List.take_length]
    rw [ec] at h4
    exact Aft.now (R := RVg X P.G) h4 rh3 (.tup sq rs)
  | @ref r hr =>
    have h4 : Aft X.K P.G (RVg X P.G) Q (fun c d H' => W c d σ H') ι3 S3 H3 (match seqAt S3 r with | some xs => alloc S3 (.lst (cutA xs l u)) | none => .bad) := h3
    cases e1 : seqAt S3 r with
    | none => rw [e1] at h4; exact h4.elim
    | some xs =>
      rw [e1] at h4
      obtain ⟨us, sq, rs⟩ := seqAt_rel rh3 e1
      exact .inl ⟨_, us, rfl, sq, h4.list rh3 (cut_rel rs l u)⟩
  | _ => exact h3.elim

theorem RFs.get {K : PySem.W.Frag} {G : Gx} {ι : Nat → Addr} {m : Nat} {H : Hp} (nd : G.nms.Nodup) {f : Nat} {x : Str} (hf : G.nms[f]? = some x) : ∀ {fs : List (Nat × AV)} {ws : List (Str × V)}, RFs K G ι m H fs ws →
    (∀ v, fs.lookup f = some v → ∃ w, ws.lookup x = some w ∧ RV K G ι m H v w) ∧ (fs.lookup f = none → ws.lookup x = none)
  | _, _, .nil => ⟨fun v e => (nomatch e), fun _ => rfl⟩
  | _, _, .cons (k := k) (f := y) (x := v') (v := w') hk r t => by
    obtain ⟨h1, h2⟩ := RFs.get nd hf t
    by_cases c : f = k
    · subst c
      rw [hf] at hk; cases hk
      rw [List.lookup_cons, List.lookup_cons, beq_self_eq_true, beq_self_eq_true]
      exact ⟨fun v e => by cases e; exact ⟨w', rfl, r⟩, fun e => (nomatch e)⟩
    · have cx : x ≠ y := fun e => by
        subst e
        exact c (nodup_ix nd hf hk)
      rw [List.lookup_cons, List.lookup_cons, beq_eq_false_iff_ne.mpr c, beq_eq_false_iff_ne.mpr cx]
      exact ⟨h1, h2⟩
theorem snd_attr (g : Good P d W X) {f : Nat} {x : Str} (ha : SndE P W X n a xa) (hx : P.G.nms[f]? = some x) (hb : attributeBase xa x X.env (eval xa X.env) = eval xa X.env) : SndE P W X (n + 1) (.attr a f) (.Attribute xa x pos) := fun ι S ρ σ H Q rh re h => by
  intro pins s I
  refine attr_of hb (thn (ha ι S ρ σ H (fun z H1 => (∃ a C dx fs v, z = .ref a ∧ H1 a = some (.ins C dx fs) ∧ Cls X.K C ∧ NoAttr X.K C x ∧ fs.lookup x = some v ∧ Q v H1) ∨
      ∃ a C dx fs v B i1 i2 bm, z = .ref a ∧ H1 a = some (L2.exo a C (some dx)) ∧ H1 dx = some (L2.exd dx fs) ∧ Xc X.K C B i1 i2 bm ∧ PySem.W.findIn X.K (.ref C) x = some none ∧ fs.lookup x = some v ∧ Q v H1) rh re
    (Aft.bind h fun v S1 _ ι1 H1 w1 rh1 le1 r1 h1 => ?_) pins s I) fun u s1 hh => ?_)
  rotate_left
  · obtain ⟨z, H1, I1, rz, hh⟩ := hh
    rcases hh with ⟨a, C, dx, fs, v, rfl, ea, c, n, l, q⟩ | ⟨a, C, dx, fs, v, B, i1, i2, bm, rfl, ea, ed, T, n, l, q⟩
    · obtain rfl : u = Value.ref a := rz
      exact getattr_ok I1 ea c n l fun u' s2 I2 ru => ⟨v, H1, I2, ru, q⟩
    · obtain rfl : u = Value.ref a := rz
      exact x_get T I1 ea ed n l fun u' s2 ru I2 => ⟨v, H1, I2, ru, q⟩
  cases r1 with
  | @ref r hr =>
    have h2 : Aft X.K P.G (RVg X P.G) Q (fun c d H' => W c d σ H') ι1 S1 H1 (match S1.get r with
      | some (.ins k fs) => (match fs.lookup f with
        | some v => if isFld P.G k f then .ok v S1 else .bad
        | none => .bad)
      | some (.exo k (some n)) => (match S1.get n with
        | some (.xdc fs) => (match fs.lookup f with
          | some v => if isXf P.G k f then .ok v S1 else .bad
          | none => .bad)
        | _ => .bad)
      | _ => .bad) := h1
    cases e1 : S1.get r with
    | none => rw [e1] at h2; exact h2.elim
    | some o =>
      rw [e1] at h2
      obtain ⟨u, hu, ru⟩ := rh1.obj e1
      cases ru with
      | @ins k c dx fs ws hc rf =>
        cases e2 : fs.lookup f with
        | none => simp only [e2] at h2; exact h2.elim
        | some z =>
          simp only [e2] at h2
          split at h2
          · rename_i hfl
            have hfl' : c.flds.contains f = true := by
              unfold isFld at hfl
              rw [hc] at hfl
              exact hfl
            obtain ⟨y, hy, hna, hcl⟩ := g.mf.fld k f c hc hfl'
            rw [hx] at hy; cases hy
            obtain ⟨w, hw, rw'⟩ := (RFs.get g.mf.nnd hx rf).1 z e2
            exact .inl ⟨_, _, dx, ws, w, rfl, hu, hcl, hna, hw, Aft.now (R := RVg X P.G) h2 rh1 rw'⟩
          · exact h2.elim
      | @exo k c dd _ hc hlt eu =>
        cases dd with
        | none => exact h2.elim
        | some n2 =>
          dsimp only at h2
          cases e2 : S1.get n2 with
          | none => rw [e2] at h2; exact h2.elim
          | some o2 =>
            rw [e2] at h2
            obtain ⟨u2, hu2, ru2⟩ := rh1.obj e2
            cases ru2 with
            | @xdc fs ws _ rf eu2 =>
              dsimp only at h2
              cases e3 : fs.lookup f with
              | none => simp only [e3] at h2; exact h2.elim
              | some z =>
                simp only [e3] at h2
                split at h2
                · rename_i hfl
                  unfold isXf at hfl
                  rw [hc] at hfl
                  obtain ⟨hfl1, hfl2⟩ := Bool.and_eq_true_iff.mp hfl
                  have T := g.mf.xcf k c hc (of_decide_eq_true hfl2)
                  obtain ⟨y, hy, hna⟩ := T.fl f hfl1
                  rw [hx] at hy; cases hy
                  obtain ⟨B, i1, i2, bm, Tx⟩ := T.xc
                  obtain ⟨w, hw, rw'⟩ := (RFs.get g.mf.nnd hx rf).1 z e3
                  exact .inr ⟨_, _, _, ws, w, B, i1, i2, bm, rfl, by rw [hu, eu]; rfl, by rw [hu2, eu2], Tx, hna, hw, Aft.now (R := RVg X P.G) h2 rh1 rw'⟩
                · exact h2.elim
            | _ => exact h2.elim
      | _ => exact h2.elim
  | _ => exact h1.elim
theorem snd_neg (ha : SndE P W X n a xa) : SndE P W X (n + 1) (.neg a) (.UnaryOp .USub xa pos) := fun ι S ρ σ H Q rh re h => by
  refine tW.of (pe_un un_neg peW) ?_
  refine ha ι S ρ σ H _ rh re (Aft.bind h fun v S1 _ ι1 H1 w1 rh1 le1 r1 h1 => ?_)
  cases r1 with
  | int i => exact ⟨i, rfl, Aft.now (R := RVg X P.G) h1 rh1 (.int _)⟩
  | _ => exact h1.elim

def SndT (P : Pe) (W : WX) (X : Cx) (n : Nat) (e : E) (x : Expr) : Prop := ∀ (ι : Nat → Addr) (S : Hs) (ρ : Ev) (σ : L2.St) (H : Hp) (Q : Bool → Hp → Prop), RH X.K P.G ι S H → RE X.K P.G ι S.n H ρ σ →
  Aft X.K P.G (fun _ _ _ (a b : Bool) => a = b) Q (fun c d H' => W c d σ H') ι S H ((ev P n e ρ S).bind tstA) → tWt X x σ H Q
abbrev RB : Rl Bool Bool := fun _ _ _ a b => a = b
theorem snt_val {e : E} {x : Expr} (h : SndE P W X n e x) (he : ∀ whole, isTrue x X.env whole = (do let v ← whole; standAt x.pos; holding [v] (truthy v))) : SndT P W X n e x := fun ι S ρ σ H Q rh re h' => by
  refine tWt.of (pt_val peW he) ?_
  refine h ι S ρ σ H _ rh re (Aft.bind h' fun v S1 _ ι1 H1 w1 rh1 le1 r1 h1 => ?_)
  cases r1 with
  | bl b => exact ⟨b, rfl, Aft.now (R := RB) h1 rh1 rfl⟩
  | _ => exact h1.elim
theorem bind_assoc {α β γ : Type} (r : Rs α) (f : α → Hs → Rs β) (k : β → Hs → Rs γ) : (r.bind f).bind k = r.bind fun a S => (f a S).bind k := by cases r <;> rfl
theorem snt_not (h : SndT P W X n a xa) : SndT P W X (n + 1) (.not a) (.UnaryOp .Not xa pos) := fun ι S ρ σ H Q rh re h' => by
  refine tWt.of (pt_not ptW) ?_
  have h2 : Aft X.K P.G RB Q (fun c d H' => W c d σ H') ι S H (((ev P n a ρ S).bind tstA).bind fun b S => .ok (!b) S) := by
    have e : (ev P (n + 1) (.not a) ρ S).bind tstA = ((ev P n a ρ S).bind tstA).bind fun b S => .ok (!b) S := by
      show ((ev P n a ρ S).bind fun x S1 => (tstA x S1).bind fun b S2 => .ok (.bl (!b)) S2).bind tstA = _
      rw [bind_assoc, bind_assoc]
      congr 1
      funext x S1
      cases x <;> rfl
    rw [← e]; exact h'
  exact h ι S ρ σ H _ rh re (Aft.bind (Ra := RB) h2 fun b S1 _ ι1 H1 b' rh1 le1 eb h1 => by subst eb; exact Aft.now (R := RB) h1 rh1 rfl)
end
end Ab

namespace Ab
open PySem L2
section
variable {P : Pe} {d n : Nat} {W : WX} {X : Cx} {pos : Pos} {a b c : E} {xa xb xc : Expr}
def tWw (X : Cx) (e : Expr) : TT := fun σ H Q => ∀ (whole : Sem Value) (pins : List (Addr × Obj)) (s : Shared), Inv X pins σ H s → wpAny (model X.prog X.w) X.A (isTrue e X.env whole) (TP X pins σ Q) X.xe s
theorem pwW {e : Expr} : PW X e (tWw X e) := ⟨fun wh pins s _ _ _ I h => h wh pins s I⟩
def SndW (P : Pe) (W : WX) (X : Cx) (n : Nat) (e : E) (x : Expr) : Prop := ∀ (ι : Nat → Addr) (S : Hs) (ρ : Ev) (σ : L2.St) (H : Hp) (Q : Bool → Hp → Prop), RH X.K P.G ι S H → RE X.K P.G ι S.n H ρ σ →
  Aft X.K P.G RB Q (fun c d H' => W c d σ H') ι S H ((ev P n e ρ S).bind tstA) → tWw X x σ H Q
theorem SndW.t {e : E} {x : Expr} (h : SndW P W X n e x) : SndT P W X n e x := fun ι S ρ σ H Q rh re h' pins s I => h ι S ρ σ H Q rh re h' _ pins s I
theorem snw_one_and {e : E} (h : SndT P W X n e xa) : SndW P W X n e (.BoolOp .And [xa] pos) := fun ι S ρ σ H Q rh re h' wh pins s I => (pw_and1 ptW).run wh pins s σ H Q I (h ι S ρ σ H Q rh re h')
theorem snw_one_or {e : E} (h : SndT P W X n e xa) : SndW P W X n e (.BoolOp .Or [xa] pos) := fun ι S ρ σ H Q rh re h' wh pins s I => (pw_or1 ptW).run wh pins s σ H Q I (h ι S ρ σ H Q rh re h')
theorem tst_and {ρ : Ev} {S : Hs} : (ev P (n + 1) (.and a b) ρ S).bind tstA = ((ev P n a ρ S).bind tstA).bind fun c S1 => if c then (ev P n b ρ S1).bind tstA else .ok false S1 := by
  show ((ev P n a ρ S).bind fun x S1 => (tstA x S1).bind fun c S2 => if c then ev P n b ρ S2 else .ok (.bl false) S2).bind tstA = _
  rw [bind_assoc, bind_assoc]
  congr 1
  funext x S1
  cases x <;> first | rfl | skip
  rename_i c; cases c <;> rfl
theorem tst_or {ρ : Ev} {S : Hs} : (ev P (n + 1) (.or a b) ρ S).bind tstA = ((ev P n a ρ S).bind tstA).bind fun c S1 => if c then .ok true S1 else (ev P n b ρ S1).bind tstA := by
  show ((ev P n a ρ S).bind fun x S1 => (tstA x S1).bind fun c S2 => if c then .ok (.bl true) S2 else ev P n b ρ S2).bind tstA = _
  rw [bind_assoc, bind_assoc]
  congr 1
  funext x S1
  cases x <;> first | rfl | skip
  rename_i c; cases c <;> rfl
theorem snw_and {xs : List Expr} (ha : SndT P W X n a xa) (hb : SndW P W X n b (.BoolOp .And (xb :: xs) pos)) : SndW P W X (n + 1) (.and a b) (.BoolOp .And (xa :: xb :: xs) pos) := fun ι S ρ σ H Q rh re h' wh pins s I => by
  rw [tst_and] at h'
  refine (pw_and ptW pwW).run wh pins s σ H Q I ?_
  refine ha ι S ρ σ H _ rh re (Aft.bind (Ra := RB) h' fun c S1 _ ι1 H1 c' rh1 le1 ec h1 => ?_)
  subst ec
  cases c with
  | true => rw [if_pos rfl] at h1 ⊢; exact hb ι1 S1 ρ σ H1 Q rh1 (re.mono le1) h1
  | false => rw [if_neg Bool.false_ne_true] at h1 ⊢; exact Aft.now (R := RB) h1 rh1 rfl
theorem snw_or {xs : List Expr} (ha : SndT P W X n a xa) (hb : SndW P W X n b (.BoolOp .Or (xb :: xs) pos)) : SndW P W X (n + 1) (.or a b) (.BoolOp .Or (xa :: xb :: xs) pos) := fun ι S ρ σ H Q rh re h' wh pins s I => by
  rw [tst_or] at h'
  refine (pw_or ptW pwW).run wh pins s σ H Q I ?_
  refine ha ι S ρ σ H _ rh re (Aft.bind (Ra := RB) h' fun c S1 _ ι1 H1 c' rh1 le1 ec h1 => ?_)
  subst ec
  cases c with
  | true => rw [if_pos rfl] at h1 ⊢; exact Aft.now (R := RB) h1 rh1 rfl
  | false => rw [if_neg Bool.false_ne_true] at h1 ⊢; exact hb ι1 S1 ρ σ H1 Q rh1 (re.mono le1) h1
theorem snt_cmp (g : Good P d W X) {op : CmpOp} (ha : SndE P W X n a xa) (hb : SndE P W X n b xb) (hm : behindInMarks op xb = false) : SndT P W X (n + 1) (.cmp op a b) (.Compare xa [op] [xb] pos) := fun ι S ρ σ H Q rh re h => by
  refine tWt.of (pt_cmpR (oprW (X := X) (f := compareOp op)) peW peW hm) ?_
  have h' : Aft X.K P.G RB Q (fun c d H' => W c d σ H') ι S H ((ev P n a ρ S).bind fun x S1 => (ev P n b ρ S1).bind fun y S2 => (rb S2 (cmpA op x y S2)).bind tstA) := by
    have e : (ev P (n + 1) (.cmp op a b) ρ S).bind tstA = (ev P n a ρ S).bind fun x S1 => (ev P n b ρ S1).bind fun y S2 => (rb S2 (cmpA op x y S2)).bind tstA := by
      show ((ev P n a ρ S).bind fun x S1 => (ev P n b ρ S1).bind fun y S2 => rb S2 (cmpA op x y S2)).bind tstA = _
      rw [bind_assoc]; congr 1; funext x S1; rw [bind_assoc]
    rw [← e]; exact h
  refine ha ι S ρ σ H _ rh re (Aft.bind h' fun x S1 _ ι1 H1 w1 rh1 le1 r1 h1 => ?_)
  refine hb ι1 S1 ρ σ H1 _ rh1 (re.mono le1) (Aft.bind h1 fun y S2 _ ι2 H2 w2 rh2 le2 r2 h2 => ?_)
  cases e : cmpA op x y S2 with
  | none => rw [e] at h2; exact h2.elim
  | some k => rw [e] at h2; exact cmpA_ok g.room.units rh2 (RV.mono le2 r1) r2 e ⟨k, rfl, Aft.now (R := RB) h2 rh2 rfl⟩
theorem snt_cmp2 (g : Good P d W X) {op op' : CmpOp} (ha : SndE P W X n a xa) (hb : SndE P W X n b xb) (hc : SndE P W X n c xc) (hm : lastMarks [op, op'] [xb, xc] = false) : SndT P W X (n + 1) (.cmp2 op op' a b c) (.Compare xa [op, op'] [xb, xc] pos) := fun ι S ρ σ H Q rh re h => by
  refine tWt.of (pt_chain (oprW (X := X) (f := compareOp op)) (oprW (X := X) (f := compareOp op')) peW peW peW (hm := hm)) ?_
  have h' : Aft X.K P.G RB Q (fun c d H' => W c d σ H') ι S H ((ev P n a ρ S).bind fun x S1 => (ev P n b ρ S1).bind fun y S2 => (ch2 (cmpA op x y S2) S2 fun S2 => (ev P n c ρ S2).bind fun z S3 => rb S3 (cmpA op' y z S3)).bind tstA) := by
    have e : (ev P (n + 1) (.cmp2 op op' a b c) ρ S).bind tstA = (ev P n a ρ S).bind fun x S1 => (ev P n b ρ S1).bind fun y S2 => (ch2 (cmpA op x y S2) S2 fun S2 => (ev P n c ρ S2).bind fun z S3 => rb S3 (cmpA op' y z S3)).bind tstA := by
      show ((ev P n a ρ S).bind fun x S1 => (ev P n b ρ S1).bind fun y S2 => ch2 (cmpA op x y S2) S2 fun S2 => (ev P n c ρ S2).bind fun z S3 => rb S3 (cmpA op' y z S3)).bind tstA = _
      rw [bind_assoc]; congr 1; funext x S1; rw [bind_assoc]
    rw [← e]; exact h
  refine ha ι S ρ σ H _ rh re (Aft.bind h' fun x S1 _ ι1 H1 w1 rh1 le1 r1 h1 => ?_)
  refine hb ι1 S1 ρ σ H1 _ rh1 (re.mono le1) (Aft.bind h1 fun y S2 _ ι2 H2 w2 rh2 le2 r2 h2 => ?_)
  cases e : cmpA op x y S2 with
  | none => rw [e] at h2; exact h2.elim
  | some k =>
    rw [e] at h2
    refine cmpA_ok g.room.units rh2 (RV.mono le2 r1) r2 e ⟨k, rfl, ?_⟩
    cases k with
    | true =>
      rw [if_pos rfl]
      have h2' : Aft X.K P.G RB Q (fun c d H' => W c d σ H') ι2 S2 H2 ((ev P n c ρ S2).bind fun z S3 => (rb S3 (cmpA op' y z S3)).bind tstA) := by rw [← bind_assoc]; exact h2
      refine hc ι2 S2 ρ σ H2 _ rh2 ((re.mono le1).mono le2) (Aft.bind h2' fun z S3 _ ι3 H3 w3 rh3 le3 r3 h3 => ?_)
      cases e' : cmpA op' y z S3 with
      | none => rw [e'] at h3; exact h3.elim
      | some k' => rw [e'] at h3; exact cmpA_ok g.room.units rh3 (RV.mono le3 r2) r3 e' ⟨k', rfl, Aft.now (R := RB) h3 rh3 rfl⟩
    | false =>
      rw [if_neg Bool.false_ne_true]
      exact ⟨false, rfl, Aft.now (R := RB) h2 rh2 rfl⟩
theorem snd_ite (hc : SndT P W X n c xc) (ha : SndE P W X n a xa) (hb : SndE P W X n b xb) : SndE P W X (n + 1) (.ite c a b) (.IfExp xc xa xb pos) := fun ι S ρ σ H Q rh re h => by
  refine tW.of (pe_ifExp ptW peW peW) ?_
  have h' : Aft X.K P.G (RVg X P.G) Q (fun c d H' => W c d σ H') ι S H (((ev P n c ρ S).bind tstA).bind fun k S2 => if k then ev P n a ρ S2 else ev P n b ρ S2) := by rw [bind_assoc]; exact h
  refine hc ι S ρ σ H _ rh re (Aft.bind (Ra := RB) h' fun k S1 _ ι1 H1 k' rh1 le1 ek h1 => ?_)
  subst ek
  cases k with
  | true => rw [if_pos rfl] at h1 ⊢; exact ha ι1 S1 ρ σ H1 Q rh1 (re.mono le1) h1
  | false => rw [if_neg Bool.false_ne_true] at h1 ⊢; exact hb ι1 S1 ρ σ H1 Q rh1 (re.mono le1) h1

/-- the callee runs; what it raises is wished for at the caller's slots -/
theorem run_fnS {k : Nat} {f : Addr} {fd : FuncData} {ps : List Str} {sp : Sp} {pins : List (Addr × Obj)} {σ : L2.St} {H : Hp} {s : Shared} {Q : VK} {us : List Value} {vs : List V} (F : FnG X.prog X.w X.K X.mg X.base (CX X.prog X.w) k f fd ps sp) (hr : Room k X.A) (gd : X.A.guards = some []) (hb : Binds X.K fd ps []) (tk : Takes X W)
    (I : Inv X pins σ H s) (r : Vals vs us) (h : sp vs H Q fun c d H' => W c d σ H') : wpAny (model X.prog X.w) X.A (call (.ref f) us) (EP X pins σ Q) X.xe s := by
  have hl : us.length = ps.length := by rw [← r.length]; exact F.len _ _ _ _ h
  have hb' := hb s us I.kIn (by rw [List.append_nil]; exact hl)
  rw [List.append_nil] at hb'
  refine wpAny_call (codeAny_mono (F.run X.A X.stack s H ⟨us, []⟩ us vs Q _ hr gd I.env0 hb' r h) fun r s' hq => ?_)
  cases r with
  | error e => exact tk e s' (XE.of_call I (fun cls d H' z => z) hq)
  | ok fl =>
    cases fl with
    | ret u => exact I.after hq
    | next => exact False.elim hq
    | brk => exact False.elim hq
    | cont => exact False.elim hq
/-- arguments of a call -/
def tWc (X : Cx) (xs : List Expr) : TA := fun σ H R => (xs = [] ∧ R [] H) ∨ (xs ≠ [] ∧ tWa X xs σ H R)
theorem snd_argc {ρ : Ev} {σ : L2.St} {es : List E} {xs : List Expr} (ha : All2 (SndE P W X n) es xs) (hs : xs.all (fun x => !isStarX x) = true) (ι : Nat → Addr) (S : Hs) (H : Hp) (Q : List V → Hp → Prop) (rh : RH X.K P.G ι S H) (re : RE X.K P.G ι S.n H ρ σ)
    (h : Aft X.K P.G (RVsX X P) Q (fun c d H' => W c d σ H') ι S H (evL (fun e S => ev P n e ρ S) es S)) : tWc X xs σ H Q := by
  cases xs with
  | nil => cases ha; exact .inl ⟨rfl, Aft.now (R := RVsX X P) h rh .nil⟩
  | cons y ys => exact .inr ⟨by simp, snd_args ha hs ι S H Q rh re h⟩
/-- .. and the call of what is kept -/
theorem callc {xs : List Expr} {σ : L2.St} {H : Hp} {R : List V → Hp → Prop} {f : Value} {first : List Value} {Q : Value → Shared → Prop} {pins : List (Addr × Obj)} {s : Shared} (I : Inv X pins σ H s) (hk : PySem.W.keepIn X.K f = true) (hs : xs.all (fun x => !isStarX x) = true) (q : tWc X xs σ H R)
    (k : ∀ us s1 vs H1, Inv X pins σ H1 s1 → Vals vs us → R vs H1 → wpAny (model X.prog X.w) X.A (call f (first ++ us)) Q X.xe s1) : wpAny (model X.prog X.w) X.A (callWith pos f first (backTo pos (starEach xs X.env)) (backToKw pos (keywordEach [] X.env))) Q X.xe s := by
  rcases q with ⟨rfl, q⟩ | ⟨hne, q⟩
  · refine PySem.W.callWith_K0 I.kIn hk ?_
    exact k [] s [] H I .nil q
  · cases xs with
    | nil => exact absurd rfl hne
    | cons y ys =>
      rw [List.all_cons, Bool.and_eq_true] at hs
      exact PySem.W.callWith_K (h₀ := X.base) I.ok.mod.kin hk (thn (q pos pins s I) fun us s1 ⟨vs, H1, I1, r, q1⟩ => ⟨I1.kIn, k us s1 vs H1 I1 r q1⟩) (starEach_cons (by simpa using hs.1)) (noStars hs.2)
theorem snd_call (g : Good P d W X) {k : Nat} {x : Str} {es : List E} {xs : List Expr} {p : Pos} (hk : P.G.fns[k]? = some (x, none)) (hkw : kwOf P.G k = []) (hg : Gl X x) (h1 : (x == ("__debug__" : Str)) = false) (ha : All2 (SndE P W X n) es xs) (hs : xs.all (fun x => !isStarX x) = true) :
    SndE P W X (n + 1) (.call k es) (.Call (.Name x p) xs [] pos) := fun ι S ρ σ H Q rh re h => by
  obtain ⟨fd, ps, F, hb0, kp⟩ := g.mf.fn k _ hk
  rw [hkw] at hb0
  have hb := hb0.pos
  intro pins s I
  refine wpAny_Call_Name_kw (ld_glob I hg (g.mf.glo k x hk) ?_ h1)
  refine callc I kp hs (snd_argc ha hs ι S H (fun vs H1 => spC X.K P k vs H1 Q fun c d H' => W c d σ H') rh re (Aft.bind (Ra := RVsX X P) h fun vs S1 _ ι1 H1 ws rh1 le1 r1 h1 => ⟨ι1, S1, vs, rh1, r1, h1⟩)) fun us s1 vs H1 I1 r q => ?_
  exact run_fnS F (g.room.mono (Nat.le_succ d)) g.gd hb g.tk I1 r q
def abOk : Expr → Bool
  | .Call (.Name id _) [] [] _ => id != ("super" : Str)
  | _ => true
theorem abOk_eq {x : Expr} (h : abOk x = true) (at_ : Str) (env : Env) (whole : Sem Value) : attributeBase x at_ env whole = whole := by
  unfold attributeBase
  split
  · rename_i id p pos
    have h' : (id != ("super" : Str)) = true := h
    rw [h']
    rfl
  · rfl
theorem fewOk {xs : List Expr} {env : Env} {pos : Pos} (hs : xs.all (fun x => !isStarX x) = true) (hn : xs.length < 30) : methodCallForm (xs.length + ([] : List Keyword).length) (backTo pos (starEach xs env)) (backToKw pos (keywordEach [] env)) = true := by
  unfold methodCallForm
  have h1 : (backTo pos (starEach xs env)).all (fun x => !x.1) = true := by
    have q := noStars (env := env) (pos := pos) hs
    rw [List.all_eq_not_any_not]
    simp only [Bool.not_not]
    rw [q]; rfl
  rw [h1]
  show (true && true && decide (xs.length + 0 + 0 < 30)) = true
  rw [decide_eq_true (by omega)]
  rfl
/-- the call of a method, by its parts -/
theorem meth_eq {xo : Expr} {x : Str} {xs : List Expr} {apos : Pos} {env : Env} (hb : abOk xo = true) (hs : xs.all (fun x => !isStarX x) = true) (hn : xs.length < 30) (hl : (apos.endLine == pos.line) = true) :
    ∃ pl : Sem Bool, eval (.Call (.Attribute xo x apos) xs [] pos) env = (do
      let ov ← eval xo env
      standAt apos.atName
      let (f, first) ← holding [ov] (getMethod ov x pl)
      callWith pos f first (backTo pos (starEach xs env)) (backToKw pos (keywordEach [] env))) := by
  refine ⟨(do return (← importBound xo env).getD true), ?_⟩
  show (do
    let ov ← attributeBase xo x env (eval xo env)
    standAt apos.atName
    methodCall xo x apos pos env ov (xs.length + ([] : List Keyword).length) (backTo pos (starEach xs env)) (backToKw pos (keywordEach [] env))) = _
  rw [abOk_eq hb]
  congr 1
  funext ov
  congr 1
  funext _
  unfold methodCall calleeOf methodCallPos
  rw [fewOk hs hn, hl]
  rfl
def MethF (P : Pe) (X : Cx) (f : Nat) (x : Str) : Prop := ∀ (k i : Nat) (c : Cl), P.G.cls[k]? = some c → c.meths.lookup f = some i → ∃ fa, P.G.fns[i]? = some fa ∧ Meth X.K (He.ga X.K c.name) x (He.fAd X.K fa) ∧ Cls X.K (He.ga X.K c.name) ∧ kwOf P.G i = []
theorem insAt_eq {S : Hs} {x : AV} {k : Nat} {fs : List (Nat × AV)} (e : insAt S x = some (k, fs)) : ∃ r, x = .ref r ∧ S.get r = some (.ins k fs) := by
  cases x with
  | ref r =>
    have e1 : (match S.get r with | some (.ins k fs) => some (k, fs) | _ => none) = some (k, fs) := e
    cases hg : S.get r with
    | none => rw [hg] at e1; cases e1
    | some o =>
      rw [hg] at e1
      cases o with
      | ins k' fs' => cases e1; exact ⟨r, rfl, hg⟩
      | _ => cases e1
  | _ => cases e
/-- o.m(..) of an own instance -/
theorem snd_methO (g : Good P d W X) {o : E} {xo : Expr} {f : Nat} {x : Str} {es : List E} {xs : List Expr} {apos : Pos} {bm : Option Bm} (ho : SndE P W X n o xo) (hx : P.G.nms[f]? = some x) (ha : All2 (SndE P W X n) es xs) (hs : xs.all (fun x => !isStarX x) = true)
    (hm : MethF P X f x) (hb : abOk xo = true) (hn : xs.length < 30) (hl : (apos.endLine == pos.line) = true) (ι : Nat → Addr) (S : Hs) (ρ : Ev) (σ : L2.St) (H : Hp) (Q : VK) (rh : RH X.K P.G ι S H) (re : RE X.K P.G ι S.n H ρ σ)
    (own : ∀ x S1, ev P n o ρ S = .ok x S1 → ∃ kf, insAt S1 x = some kf)
    (h : Aft X.K P.G (RVg X P.G) Q (fun c d H' => W c d σ H') ι S H (ev P (n + 1) (.meth o f bm es) ρ S)) : tW X (.Call (.Attribute xo x apos) xs [] pos) σ H Q := by
  obtain ⟨pl, ht⟩ := meth_eq (env := X.env) (x := x) hb hs hn hl
  intro pins s I
  refine PySem.W.methodCall_KW (pl := pl) (thn (ho ι S ρ σ H (fun w H1 => ∃ a C dx ws g1 k, w = .ref a ∧ H1 a = some (.ins C dx ws) ∧ Cls X.K C ∧ Meth X.K C x g1 ∧ ws.lookup x = none ∧
      (∃ fd ps, FnG X.prog X.w X.K X.mg X.base (CX X.prog X.w) d g1 fd ps (spC X.K P k) ∧ Binds X.K fd ps []) ∧ tWc X xs σ H1 fun vs H2 => spC X.K P k (w :: vs) H2 Q fun c d H' => W c d σ H') rh re (Aft.bind h fun v S1 e1 ι1 H1 w1 rh1 le1 r1 h1 => ?_) pins s I) fun u s1 ⟨w, H1, I1, rx, a, C, dx, ws, g1, k, ex, ea, hc, hme, l, ⟨fd, ps, F, hbd⟩, q⟩ => ?_) ht
  · obtain ⟨⟨k, fs⟩, ei⟩ := own v S1 e1
    simp only [ei] at h1
    obtain ⟨r, rfl, eo⟩ := insAt_eq ei
    cases r1 with
    | ref hr =>
      obtain ⟨u, hu, ru⟩ := rh1.obj eo
      cases ru with
      | @ins _ c dx _ ws hc rf =>
        cases el : fs.lookup f with
        | some v => simp only [el] at h1; exact h1.elim
        | none =>
          cases em : c.meths.lookup f with
          | none => simp only [el, hc, em, Option.bind_some] at h1; exact h1.elim
          | some i =>
            simp only [el, hc, em, Option.bind_some] at h1
            obtain ⟨fa, efa, hme, hcl, hkw⟩ := hm k i c hc em
            obtain ⟨fd, ps, F, hbd0, kp⟩ := g.mf.fn i fa efa
            rw [hkw] at hbd0
            have hbd := hbd0.pos
            refine ⟨_, _, dx, ws, _, i, rfl, hu, hcl, hme, (RFs.get g.mf.nnd hx rf).2 el, ⟨fd, ps, F, hbd⟩, ?_⟩
            refine snd_argc ha hs ι1 S1 H1 _ rh1 (re.mono le1) (Aft.bind (Ra := RVsX X P) h1 fun vs S2 _ ι2 H2 ws rh2 le2 r2 h2 => ?_)
            exact ⟨ι2, S2, _, rh2, .cons (RV.mono le2 (.ref hr)) r2, h2⟩
  · subst ex
    obtain rfl : u = Value.ref a := rx
    refine getmeth_ok I1 ea hc hme l ?_
    exact callc I1 hme.kp hs q fun us s2 vs H2 I2 r q2 => run_fnS (us := .ref a :: us) (vs := .ref a :: vs) F (g.room.mono (Nat.le_succ d)) g.gd hbd g.tk I2 (.cons rfl r) q2
end
end Ab

namespace Ab
open PySem L2
section
variable {P : Pe} {d n : Nat} {W : WX} {X : Cx} {pos : Pos} {a b c : E} {xa xb xc : Expr}
/-- a call by values -/
def clW (X : Cx) (f : Value) : List V → Hp → VK → Prop := fun xs H Q => ∀ (pins : List (Addr × Obj)) (s : Shared) (σ : L2.St) (us : List Value), Inv X pins σ H s → Vals xs us → wpAny (model X.prog X.w) X.A (call f us) (EP X pins σ Q) X.xe s
theorem clrW {f : Value} : CallR X f (clW X f) := fun pins s σ H xs us Q I r h => h pins s σ us I r
theorem clW.of {f : Value} {r : List V → Hp → VK → Prop} (p : CallR X f r) {xs : List V} {H : Hp} {Q : VK} (h : r xs H Q) : clW X f xs H Q := fun pins s σ us I rv => p pins s σ H xs us Q I rv h
/-- which built-in a name is -/
def bfV : Bf → Value
  | .len => .builtin "len"
  | .all => .builtin "all"
  | .any => .builtin "any"
  | .sum => .builtin "sum"
  | .tuple => .type "tuple"
  | .list => .type "list"
  | .int => .type "int"
  | .repr => .builtin "repr"
  | .max => .builtin "max"
  | .min => .builtin "min"
  | .str => .type "str"
  | .sorted => .builtin "sorted"
  | .dict => .type "dict"
  | .abs => .builtin "abs"
  | .lenset => .none
  | .lrng => .none
theorem bls_rel {ι : Nat → Addr} {m : Nat} {H : Hp} {G : Gx} : ∀ {xs : List AV} {vs : List V} {bs : List Bool}, RVs X.K G ι m H xs vs → blsOf xs = some bs → vs = bs.map V.bl
  | _, _, _, .nil, e => by cases e; rfl
  | _, _, bs, .cons (x := x) (xs := xs) r t, e => by
    cases r with
    | bl k =>
      have e1 : (match blsOf xs with | some bs => some (k :: bs) | none => none) = some bs := e
      cases h : blsOf xs with
      | none => rw [h] at e1; cases e1
      | some cs => rw [h] at e1; cases e1; rw [bls_rel t h]; rfl
    | _ => cases e
theorem ints_rel {ι : Nat → Addr} {m : Nat} {H : Hp} {G : Gx} : ∀ {xs : List AV} {vs : List V} {bs : List Int}, RVs X.K G ι m H xs vs → intsOf xs = some bs → vs = bs.map V.int
  | _, _, _, .nil, e => by cases e; rfl
  | _, _, bs, .cons (x := x) (xs := xs) r t, e => by
    cases r with
    | int k =>
      have e1 : (match intsOf xs with | some bs => some (k :: bs) | none => none) = some bs := e
      cases h : intsOf xs with
      | none => rw [h] at e1; cases e1
      | some cs => rw [h] at e1; cases e1; rw [ints_rel t h]; rfl
    | _ => cases e
theorem strs_rel {ι : Nat → Addr} {m : Nat} {H : Hp} {G : Gx} : ∀ {xs : List AV} {vs : List V} {bs : List Str}, RVs X.K G ι m H xs vs → strsOf xs = some bs → vs = bs.map V.str
  | _, _, _, .nil, e => by cases e; rfl
  | _, _, bs, .cons (x := x) (xs := xs) r t, e => by
    cases r with
    | str k =>
      have e1 : (match strsOf xs with | some bs => some (k :: bs) | none => none) = some bs := e
      cases h : strsOf xs with
      | none => rw [h] at e1; cases e1
      | some cs => rw [h] at e1; cases e1; rw [strs_rel t h]; rfl
    | _ => cases e
theorem rk_len {ι : Nat → Addr} {m : Nat} {H : Hp} {G : Gx} {κ : Type} : ∀ {xs : List (κ × AV)} {vs : List (κ × V)}, RKs X.K G ι m H xs vs → xs.length = vs.length
  | _, _, .nil => rfl
  | _, _, .cons _ t => by rw [List.length_cons, List.length_cons, rk_len t]
theorem one_rel {ι : Nat → Addr} {m : Nat} {H : Hp} {G : Gx} {xs : List AV} {w : List V} {x : AV} (r : RVs X.K G ι m H [x] w) : ∃ v, w = [v] ∧ RV X.K G ι m H x v := by
  cases r with
  | cons r t => cases t; exact ⟨_, rfl, r⟩
theorem dctOf_rel {G : Gx} {ι : Nat → Addr} {S : Hs} {H : Hp} (rh : RH X.K G ι S H) {x : AV} {w : V} (r : RV X.K G ι S.n H x w) {kvs : List (Key × AV)} (e : dctOf S x = some kvs) : ∃ a ws, w = .ref a ∧ H a = some (.dK ws) ∧ RKs X.K G ι S.n H kvs ws := by
  cases r with
  | ref h =>
    rename_i n
    have e1 : (match S.get n with | some (.dct kvs) => some kvs | _ => none) = some kvs := e
    cases hg : S.get n with
    | none => rw [hg] at e1; cases e1
    | some o =>
      rw [hg] at e1
      obtain ⟨u, h1, h2⟩ := rh.obj hg
      cases h2 with
      | dct r => cases e1; exact ⟨_, _, rfl, h1, r⟩
      | _ => cases e1
  | _ => cases e
/-- repr of data, where no repr is under way -/
theorem call_reprD (gd : X.A.guards = some []) (un : X.A.units + 64 < cLine) : CallR X (.builtin "repr") (fun xs H Q => ∃ w d, xs = [w] ∧ Dp X.K H w d ∧ (d.showable && !d.hasDict && decide (d.depth ≤ 60) && decide (d.shown.length ≤ sizeLine)) = true ∧ Q (.str d.shown) H) := fun pins s σ H xs us Q I rv h => by
  obtain ⟨w, d, rfl, dp, c, q⟩ := h
  simp only [Bool.and_eq_true, decide_eq_true_eq] at c
  obtain ⟨⟨⟨c1, c2⟩, c3⟩, c4⟩ := c
  cases rv with
  | @cons _ u _ us' r t =>
    cases t
    obtain ⟨as, rd⟩ := Dp.reads I d w u dp r
    have fin : ∀ tk, EP X pins σ Q (.str d.shown tk) { s with toks := s.toks + 1 } := fun tk => ⟨.str d.shown, H, I.tok _, ⟨tk, rfl⟩, q⟩
    cases rd with
    | none => exact PySem.P.repr_of_none (fin _)
    | bool b => exact PySem.P.repr_of_bool (fin _)
    | int i t => exact PySem.P.repr_of_int (of_decide_eq_true c1) (fin _)
    | str x t => exact PySem.P.repr_of_str (fin _) c4
    | list h1 h2 h3 h4 => exact repr_of_reads' (.list h1 h2 h3 h4) c1 (PyData.noDict_hsm (by simpa using c2)) gd (by omega) (fun _ _ e => e) (fun h' u tk hk => ⟨.str _, H, I.kept hk, ⟨u, rfl⟩, q⟩) c4
    | tuple h1 h2 h3 h4 => exact repr_of_reads' (.tuple h1 h2 h3 h4) c1 (PyData.noDict_hsm (by simpa using c2)) gd (by omega) (fun _ _ e => e) (fun h' u tk hk => ⟨.str _, H, I.kept hk, ⟨u, rfl⟩, q⟩) c4
    | dict h1 h2 h3 h4 h5 => exact repr_of_reads' (.dict h1 h2 h3 h4 h5) c1 (PyData.noDict_hsm (by simpa using c2)) gd (by omega) (fun _ _ e => e) (fun h' u tk hk => ⟨.str _, H, I.kept hk, ⟨u, rfl⟩, q⟩) c4
def bfOk : Bf → Bool
  | .lenset => false
  | .lrng => false
  | _ => true
theorem bltA_ok (g : Good P d W X) {f : Bf} {vs : List AV} {ws : List V} {ι : Nat → Addr} {S : Hs} {H : Hp} {Q : VK} {W' : Value → Option Addr → Hp → Prop} (rh : RH X.K P.G ι S H) (r : RVs X.K P.G ι S.n H vs ws)
    (hok : bfOk f = true) (h : Aft X.K P.G (RVg X P.G) Q W' ι S H (bltA f vs S)) : clW X (bfV f) ws H Q := by
  unfold bltA at h
  split at h
  · -- len
    rename_i x
    cases r with
    | cons r t =>
      cases t
      split at h
      · rename_i z
        cases r
        split at h
        · rename_i c
          exact clW.of call_len_str ⟨z, rfl, of_decide_eq_true c, Aft.now (R := RVg X P.G) h rh (.int _)⟩
        · exact h.elim
      · split at h
        · rename_i ys e1
          obtain ⟨q, us, rfl, sq, rs⟩ := seqOf_rel rh r e1
          exact clW.of call_len_seq ⟨q, us, rfl, sq, by rw [← rs.length]; exact Aft.now (R := RVg X P.G) h rh (.int _)⟩
        · split at h
          · rename_i kvs e1
            obtain ⟨q, us, rfl, hq, rs⟩ := dctOf_rel rh r e1
            exact clW.of call_lenD ⟨q, us, rfl, hq, by rw [← rk_len rs]; exact Aft.now (R := RVg X P.G) h rh (.int _)⟩
          · exact h.elim
  · -- all
    rename_i k
    cases r with
    | cons r t =>
      cases t
      cases r with
      | ref hr =>
        split at h
        · rename_i ys e1
          split at h
          · rename_i bs e2
            obtain ⟨us, sq, rs⟩ := seqAt_rel rh e1
            rw [bls_rel rs e2] at sq
            exact clW.of (cr_all g.calm) ⟨_, bs, rfl, sq, Aft.now (R := RVg X P.G) h rh (.bl _)⟩
          · exact h.elim
        · exact h.elim
  · -- tuple
    rename_i x
    cases r with
    | cons r t =>
      cases t
      split at h
      · rename_i ys e1
        obtain ⟨q, us, rfl, sq, rs⟩ := seqOf_rel rh r e1
        refine clW.of call_tuple_of ⟨q, us, rfl, ?_⟩
        rcases sq with sq | sq
        · exact .inl ⟨sq, h.tuple rh rs⟩
        · exact .inr ⟨sq, Aft.now (R := RVg X P.G) h rh (.tup sq rs)⟩
      · exact h.elim
  · -- list
    rename_i x
    cases r with
    | cons r t =>
      cases t
      split at h
      · rename_i ys e1
        obtain ⟨q, us, rfl, sq, rs⟩ := seqOf_rel rh r e1
        exact clW.of call_list_of ⟨q, us, rfl, sq, h.list rh rs⟩
      · exact h.elim
  · -- int
    rename_i x
    cases r with
    | cons r t =>
      cases t
      cases r with
      | int i => exact clW.of call_int1 (.inl ⟨i, rfl, Aft.now (R := RVg X P.G) h rh (.int _)⟩)
      | bl k => exact clW.of call_int1 (.inr ⟨k, rfl, Aft.now (R := RVg X P.G) h rh (.int _)⟩)
      | _ => exact h.elim
  · -- max
    rename_i i j
    cases r with
    | cons r t =>
      cases t with
      | cons r2 t2 =>
        cases t2; cases r; cases r2
        exact clW.of (call_max2 g.calm) ⟨i, j, rfl, Aft.now (R := RVg X P.G) h rh (.int _)⟩
  · rename_i i j
    cases r with
    | cons r t =>
      cases t with
      | cons r2 t2 =>
        cases t2; cases r; cases r2
        exact clW.of (call_min2 g.calm) ⟨i, j, rfl, Aft.now (R := RVg X P.G) h rh (.int _)⟩
  · -- sum
    rename_i k
    cases r with
    | cons r t =>
      cases t
      cases r with
      | ref hr =>
        split at h
        · rename_i ys e1
          split at h
          · rename_i bs e2
            obtain ⟨us, sq, rs⟩ := seqAt_rel rh e1
            rw [ints_rel rs e2] at sq
            exact clW.of (cr_sum g.calm) ⟨_, bs, rfl, sq, Aft.now (R := RVg X P.G) h rh (.int _)⟩
          · exact h.elim
        · exact h.elim
  · rename_i x
    obtain ⟨w, rfl, r1⟩ := one_rel (xs := []) r
    split at h
    · rename_i d e
      split at h
      · rename_i c
        exact clW.of (call_reprD g.gd g.room.units) ⟨w, d, rfl, toD_rel rh 60 x w d r1 e, c, Aft.now (R := RVg X P.G) h rh (.str _)⟩
      · exact h.elim
    · exact h.elim
  · cases hok
  · cases hok
  · exact h.elim
/-- f(..), f a built-in by its name -/
theorem snd_blt (g : Good P d W X) {f : Bf} {x : Str} {es : List E} {y : Expr} {ys : List Expr} {p : Pos} (hx : x ∈ bltN) (hv : bootBuiltins x = some (bfV f)) (hg : Gl X x) (h1 : (x == ("__debug__" : Str)) = false) (h2 : x ≠ "__name__") (ha : All2 (SndE P W X n) es (y :: ys))
    (hs : (y :: ys).all (fun x => !isStarX x) = true) (hok : bfOk f = true) : SndE P W X (n + 1) (.blt f es) (.Call (.Name x p) (y :: ys) [] pos) := fun ι S ρ σ H Q rh re h => by
  have hs' := hs
  rw [List.all_cons, Bool.and_eq_true] at hs'
  have go : tCB (clW X (bfV f)) (tWa X (y :: ys)) σ H Q := snd_args ha hs ι S H _ rh re (Aft.bind (Ra := RVsX X P) h fun vs S1 _ ι1 H1 ws rh1 le1 r1 h1 => bltA_ok g rh1 r1 hok h1)
  have e1 := starEach_cons (env := X.env) (xs := ys) (x := y) (by simpa using hs'.1)
  have e2 := noStars (env := X.env) (pos := pos) hs'.2
  cases f <;> first
    | exact tW.of (pe_callB clrW hg (g.mf.free x hx) hv paW h2 h1 e1 e2) go
    | exact tW.of (pe_callTy clrW hg (g.mf.free x hx) hv paW h2 h1 e1 e2) go
    | cases hok
theorem kitB_ok : ∀ t u : Bty, kitB (btyN t) (btyN u) = some (decide (t = u) || (decide (t = .bool) && decide (u = .int))) := by
  intro t u
  cases t <;> cases u <;> decide +kernel
theorem sqT_ty {K : PySem.W.Frag} {H : Hp} {a : Addr} {vs : List V} (h : SqT K H a vs) : TyX K H (.ref a) (.type "tuple") := by
  rcases h with (h | ⟨o, h⟩) | ⟨o, its, m, hk, hc, _⟩
  · exact .base (.tup h)
  · exact .fTuple h
  · exact .kTuple hk hc
theorem tyOf_rel (g : Good P d W X) {ι : Nat → Addr} {S : Hs} {H : Hp} (rh : RH X.K P.G ι S H) {x : AV} {w : V} (r : RV X.K P.G ι S.n H x w) {t : Ty} (e : tyOf S x = some t) (hp : plainT P.G t = true) : TyX X.K H w (tyVal X.K P.G t) := by
  cases r with
  | non => cases e; exact .base .non
  | bl b => cases e; exact .base (.bl b)
  | int i => cases e; exact .base (.int i)
  | str z => cases e; exact .base (.str z)
  | tup sq rs => cases e; exact sqT_ty sq
  | @ref r hr =>
    have e1 : (match S.get r with
      | some (.lst _) => some (Ty.b .list)
      | some (.lck (.lst _)) => some (.b .list)
      | some (.dct _) => some (.b .dict)
      | some (.dtt _) => some (.b .dict)
      | some (.lck (.dct _)) => some (.b .dict)
      | some (.ins k _) => some (.c k)
      | _ => none) = some t := e
    cases hg : S.get r with
    | none => rw [hg] at e1; cases e1
    | some o =>
      rw [hg] at e1
      obtain ⟨u, h1, h2⟩ := rh.obj hg
      cases h2 with
      | lst _ => cases e1; exact .base (.lst h1)
      | dct _ => cases e1; exact .base (.dK h1)
      | dtt _ => cases e1; exact .base (.dT h1)
      | @ins k c dx fs ws hc rf =>
        cases e1
        have hc' : c.plain = true := by
          have : (match P.G.cls[k]? with | some c => c.plain | none => false) = true := hp
          rw [hc] at this; exact this
        obtain ⟨cl, f1, f2⟩ := g.mf.pln k c hc hc'
        have := TyOf.ins (K := X.K) h1 cl f1 g.mf.obg.1 g.mf.obg.2 f2
        show TyX X.K H _ (match P.G.cls[k]? with | some c => .ref (He.ga X.K c.name) | none => .none)
        rw [hc]
        exact .base this
      | exo _ _ _ => cases e1
      | xdc _ _ => cases e1
      | lck h3 =>
        cases h3 with
        | lst _ => cases e1; exact .base (.frz h1)
        | dct _ => cases e1; exact .fDict h1
        | _ => cases e1
  | ty s => cases e
  | fn _ => cases e
  | cl _ => cases e
theorem kitAny_ok (g : Good P d W X) {t : Ty} : ∀ {ts : List Ty} {b : Bool}, isTys P.G t ts = some b → PySem.W.kitAny X.K (tyVal X.K P.G t) (ts.map (tyVal X.K P.G)) = some b
  | [], _, e => e
  | u :: r, b, e => by
    unfold isTys at e
    cases h : isTy P.G t u with
    | none => rw [h] at e; cases e
    | some k =>
      rw [h] at e
      have q := g.mf.isi t u k h
      show (match PySem.W.kitOne X.K (tyVal X.K P.G t) (tyVal X.K P.G u) with
        | some true => some true
        | some false => PySem.W.kitAny X.K (tyVal X.K P.G t) (r.map (tyVal X.K P.G))
        | none => none) = some b
      rw [q]
      cases k with
      | true => exact e
      | false => exact kitAny_ok g e
/-- a class as an expression -/
def TyE (P : Pe) (X : Cx) (t : Ty) (x : Expr) : Prop := isStarX x = false ∧ ∃ w, PE X x (tC w) ∧ ClsV w (tyVal X.K P.G t)
theorem pa_tys : ∀ {ts : List Ty} {xs : List Expr}, All2 (TyE P X) ts xs → ∃ ws, PA X xs (fun _ H Q => Q ws H) ∧ Paired ClsV ws (ts.map (tyVal X.K P.G))
  | _, _, .nil => ⟨[], pa_nil, .nil⟩
  | _, _, .cons h t => by
    obtain ⟨hs, w, pe, k⟩ := h
    obtain ⟨ws, pa, ks⟩ := pa_tys t
    exact ⟨w :: ws, pa_cons pe pa (starEach_cons hs), .cons k ks⟩
theorem kitOne_of (g : Good P d W X) {t u : Ty} {b : Bool} (e : isTys P.G u [t] = some b) : PySem.W.kitOne X.K (tyVal X.K P.G u) (tyVal X.K P.G t) = some b := by
  have q' : (match PySem.W.kitOne X.K (tyVal X.K P.G u) (tyVal X.K P.G t) with
    | some true => some true
    | some false => some false
    | none => none) = some b := kitAny_ok g e
  cases z : PySem.W.kitOne X.K (tyVal X.K P.G u) (tyVal X.K P.G t) with
  | none => rw [z] at q'; cases q'
  | some k => rw [z] at q'; cases k <;> exact q'
/-- isinstance(x, c), x an exception too -/
def rIsiX (K : PySem.W.Frag) : List V → Hp → VK → Prop := fun xs H Q => rIsi K xs H Q ∨ ∃ (a : Addr) (c : V) (C : Addr) (d : Option Addr) (u : Value) (b : Bool) (B i1 i2 : String) (bm : List Value), xs = [.ref a, c] ∧ ClsV c u ∧ Xc K C B i1 i2 bm ∧ H a = some (L2.exo a C d) ∧
  (∀ dx, d = some dx → ∃ fs, H dx = some (L2.exd dx fs)) ∧ PySem.W.kitOne K (.ref C) u = some b ∧ Q (.bl b) H
theorem call_isiX (obg : PySem.W.specialIn X.K (.builtin "object.__class__") "__get__" = some (some (.builtin "getset_descriptor.__get__")) ∧ PySem.W.takesIn X.K (.builtin "object.__class__") = some true) : CallR X (.builtin "isinstance") (rIsiX X.K) := fun pins s σ H xs us Q I r h => by
  rcases h with h | ⟨a, c, C, dd, u, b, B, i1, i2, bm, rfl, hc, T, ea, hdd, hk, q⟩
  · exact call_isi pins s σ H xs us Q I r h
  · cases r with
    | cons rx rr =>
      cases rr with
      | cons rt rr =>
        cases rr
        cases rx
        have e := hc.eq rt
        subst e
        exact x_isi T I ea hdd obg hk fun s' I' => ⟨.bl b, H, I', rfl, q⟩
theorem exAt_rel {ι : Nat → Addr} {S : Hs} {H : Hp} (rh : RH X.K P.G ι S H) {x : AV} {w : V} (r : RV X.K P.G ι S.n H x w) {k : Nat} {c : Cl} (e : exAt S x = some k) (hc : P.G.cls[k]? = some c) :
    ∃ a dd, w = .ref a ∧ H a = some (L2.exo a (He.ga X.K c.name) dd) ∧ ∀ dx, dd = some dx → ∃ fs, H dx = some (L2.exd dx fs) := by
  cases r with
  | @ref r hr =>
    unfold exAt at e
    dsimp only at e
    cases e1 : S.get r with
    | none => rw [e1] at e; cases e
    | some o =>
      rw [e1] at e
      obtain ⟨u, hu, ru⟩ := rh.obj e1
      cases ru with
      | @exo k2 c2 dd _ hc2 hlt eu =>
        cases dd with
        | none =>
          cases e
          rw [hc] at hc2; cases hc2
          exact ⟨_, none, rfl, by rw [hu, eu]; rfl, fun _ z => nomatch z⟩
        | some n2 =>
          dsimp only at e
          cases e2 : S.get n2 with
          | none => rw [e2] at e; cases e
          | some o2 =>
            rw [e2] at e
            obtain ⟨u2, hu2, ru2⟩ := rh.obj e2
            cases ru2 with
            | @xdc fs ws _ rf eu2 =>
              cases e
              rw [hc] at hc2; cases hc2
              exact ⟨_, some (ι n2), rfl, by rw [hu, eu]; rfl, fun dx z => by cases z; exact ⟨ws, by rw [hu2, eu2]⟩⟩
            | _ => cases e
      | _ => cases e
  | _ => cases e
theorem snd_isi1 (g : Good P d W X) {t : Ty} {xt : Expr} {p : Pos} (ha : SndE P W X n a xa) (hs : isStarX xa = false) (ht : TyE P X t xt) (hg : Gl X "isinstance") : SndE P W X (n + 1) (.isi a false [t]) (.Call (.Name "isinstance" p) [xa, xt] [] pos) := fun ι S ρ σ H Q rh re h => by
  obtain ⟨hst, w, pe, k⟩ := ht
  refine tW.of (pe_callB (call_isiX g.mf.obg) hg (g.mf.free _ (by decide +kernel)) (by decide +kernel) (pa_cons peW (pa_cons pe pa_nil (starEach_cons hst)) (starEach_cons hs)) (by decide) (by decide) (starEach_cons hs) (by rw [starEach_cons hst]; rfl)) ?_
  refine ha ι S ρ σ H _ rh re (Aft.bind h fun v S1 _ ι1 H1 w1 rh1 le1 r1 h1 => ?_)
  have h1' : Aft X.K P.G (RVg X P.G) Q (fun c d H' => W c d σ H') ι1 S1 H1 (rb S1 (isiE P.G S1 v [t])) := h1
  replace h1 := h1'
  unfold isiE at h1
  cases ex : exAt S1 v with
  | some k0 =>
    rw [ex] at h1
    dsimp only at h1
    cases hc : P.G.cls[k0]? with
    | none => rw [hc] at h1; exact h1.elim
    | some cl =>
      rw [hc] at h1
      dsimp only at h1
      split at h1
      · rename_i hxb
        cases e : isTys P.G (.c k0) [t] with
        | none => rw [e] at h1; exact h1.elim
        | some b =>
          rw [e] at h1
          have q := kitOne_of g e
          have ev : tyVal X.K P.G (.c k0) = .ref (He.ga X.K cl.name) := by show (match P.G.cls[k0]? with | some c => Value.ref (He.ga X.K c.name) | none => .none) = _; rw [hc]
          rw [ev] at q
          obtain ⟨B, i1, i2, bm, Tx⟩ := (g.mf.xcf k0 cl hc hxb).xc
          obtain ⟨a, dd, rfl, ea, hdd⟩ := exAt_rel rh1 r1 ex hc
          exact .inr ⟨a, w, _, dd, _, b, B, i1, i2, bm, rfl, k, Tx, ea, hdd, q, Aft.now (R := RVg X P.G) h1 rh1 (.bl _)⟩
      · exact h1.elim
  | none =>
  rw [ex] at h1
  cases e : isiA P.G S1 v [t] with
  | none => rw [e] at h1; exact h1.elim
  | some b =>
    rw [e] at h1
    unfold isiA at e
    cases e1 : tyOf S1 v with
    | none => rw [e1] at e; cases e
    | some u =>
      simp only [e1] at e
      split at e
      · rename_i hp
        exact .inl ⟨w1, w, _, _, b, rfl, k, tyOf_rel g rh1 r1 e1 hp, kitOne_of g e, Aft.now (R := RVg X P.G) h1 rh1 (.bl _)⟩
      · cases e
theorem snd_isiT (g : Good P d W X) {ts : List Ty} {xs : List Expr} {p p2 : Pos} {j : Nat} (ha : SndE P W X n a xa) (hs : isStarX xa = false) (ht : All2 (TyE P X) ts xs) (hl : ts.length ≤ 10) (hg : Gl X "isinstance") : SndE P W X (n + 1) (.isi a true ts) (.Call (.Name "isinstance" p) [xa, .Tuple xs j p2] [] pos) := fun ι S ρ σ H Q rh re h => by
  obtain ⟨ws, pa, k⟩ := pa_tys ht
  refine tW.of (pe_callB call_isiT hg (g.mf.free _ (by decide +kernel)) (by decide +kernel) (pa_cons peW (pa_cons (pe_tup pa) pa_nil) (starEach_cons hs)) (by decide) (by decide) (starEach_cons hs) rfl) ?_
  refine ha ι S ρ σ H _ rh re (Aft.bind h fun v S1 _ ι1 H1 w1 rh1 le1 r1 h1 => ?_)
  have hlw : ws.length ≤ sizeLine := by
    have e1 := Paired.length k
    rw [List.length_map] at e1
    rw [e1, sizeLine_eq]; omega
  refine ⟨hlw, fun tp htp => ?_⟩
  have h1' : Aft X.K P.G (RVg X P.G) Q (fun c d H' => W c d σ H') ι1 S1 H1 (rb S1 (isiA P.G S1 v ts)) := h1
  replace h1 := h1'
  cases e : isiA P.G S1 v ts with
  | none => rw [e] at h1; exact h1.elim
  | some b =>
    rw [e] at h1
    unfold isiA at e
    cases e1 : tyOf S1 v with
    | none => rw [e1] at e; cases e
    | some u =>
      simp only [e1] at e
      split at e
      · rename_i hp
        have rh2 := rh1.off (u := .tup ws) htp
        have r2 := RV.mono (Le.new (u := .tup ws) htp) r1
        exact ⟨w1, tp, ws, _, _, b, rfl, upd_same, k, tyOf_rel g rh2 r2 e1 hp, kitAny_ok g e, h1 ι1 _ _ rh2 (Le.new htp) (.bl _)⟩
      · cases e
end
end Ab

namespace Ab
open PySem L2
section
variable {P : Pe} {d n : Nat} {W : WX} {X : Cx} {pos : Pos} {a b c : E} {xa xb xc : Expr}
def mtW (X : Cx) (id : String) : V → List V → Hp → VK → Prop := fun x xs H Q => ∀ (pins : List (Addr × Obj)) (s : Shared) (σ : L2.St) (v : Value) (us : List Value), Inv X pins σ H s → RelV x v → Vals xs us → wpAny (model X.prog X.w) X.A (call (.builtin id) (v :: us)) (EP X pins σ Q) X.xe s
theorem mtW.of {id : String} {r : V → List V → Hp → VK → Prop} (p : MtM X id r) {x : V} {xs : List V} {H : Hp} {Q : VK} (h : r x xs H Q) : mtW X id x xs H Q := fun pins s σ v us I rx rv => p pins s σ H x xs v us Q I rx rv h
theorem mtW.ofR {id : String} {r : V → List V → Hp → VK → Prop} (p : MtR X id r) {x : V} {xs : List V} {H : Hp} {Q : VK} (h : r x xs H Q) : mtW X id x xs H Q := fun pins s σ v us I rx rv => p pins s σ H x xs v us Q I rx rv h
def btN : Bt → String
  | .lst => "list"
  | .str => "str"
  | .dct => "dict"
def bmN : Bm → Str
  | .append => "append" | .pop => "pop" | .index => "index" | .count => "count" | .extend => "extend" | .insert => "insert" | .join => "join" | .get => "get" | .clear => "clear" | .strip => "strip"
  | .items => "items" | .keys => "keys" | .values => "values" | .update => "update" | .setd => "setdefault" | .split => "split" | .starts => "startswith"
theorem bm_facts {t : Bt} {m : Bm} {id : String} (e : bmId t m = some id) : PlainAttrs (btN t) ∧ Slot (btN t) (bmN m) id ∧ typeOf (.builtin id) = pure (.type "method_descriptor") := by
  cases t <;> cases m <;> cases e <;> first
    | exact ⟨F.plainAttrs_list, F.slot_list_append, F.type_list_append⟩
    | exact ⟨F.plainAttrs_list, F.slot_list_pop, F.type_list_pop⟩
    | exact ⟨F.plainAttrs_list, F.slot_list_index, F.type_list_index⟩
    | exact ⟨F.plainAttrs_list, F.slot_list_extend, F.type_list_extend⟩
    | exact ⟨F.plainAttrs_list, F.slot_list_clear, F.type_list_clear⟩
    | exact ⟨F.plainAttrs_str, F.slot_str_join, F.type_str_join⟩
theorem tyB_rel {ι : Nat → Addr} {S : Hs} {H : Hp} {G : Gx} (rh : RH X.K G ι S H) {x : AV} {w : V} (r : RV X.K G ι S.n H x w) {t : Bt} (e : tyB S x = some t) : tyV X.K (btN t) w H := by
  cases r with
  | str z => cases e; rfl
  | @ref r hr =>
    have e1 : (match S.get r with
      | some (.lst _) => some Bt.lst
      | some (.lck (.lst _)) => some .lst
      | some (.dct _) => some .dct
      | _ => none) = some t := e
    cases hg : S.get r with
    | none => rw [hg] at e1; cases e1
    | some o =>
      rw [hg] at e1
      obtain ⟨u, h1, h2⟩ := rh.obj hg
      cases h2 with
      | lst _ => cases e1; exact .inl ⟨rfl, _, SqL.of h1⟩
      | dct _ => cases e1; exact .inr (.inr (.inl ⟨rfl, .inl ⟨_, h1⟩⟩))
      | lck h3 =>
        cases h3 with
        | lst _ => cases e1; exact .inl ⟨rfl, _, .inl (.inr ⟨_, h1⟩)⟩
        | _ => cases e1
      | _ => cases e1
  | _ => cases e
/-- a list changed in its place -/
theorem Aft.setl {ι : Nat → Addr} {S : Hs} {H : Hp} {Q : VK} {W' : Value → Option Addr → Hp → Prop} {r : Nat} {xs : List AV} {v : AV} {w : V} {us vs : List V} (h : Aft X.K P.G (RVg X P.G) Q W' ι S H (.ok v (S.set r (.lst xs)))) (rh : RH X.K P.G ι S H) (hr : r < S.n)
    (hu : H (ι r) = some (.lst us)) (rs : RVs X.K P.G ι S.n H xs vs) (rv : RV X.K P.G ι S.n H v w) : Q w (upd H (ι r) (.lst vs)) := by
  have le : Le X.K ι S.n H ι (S.set r (.lst xs)).n (upd H (ι r) (.lst vs)) := Le.old hr hu trivial
  exact h ι _ w (rh.set hr hu trivial (.lst rs)) le (RV.mono le rv)
theorem lst_rel {ι : Nat → Addr} {S : Hs} {H : Hp} {G : Gx} (rh : RH X.K G ι S H) {r : Nat} {xs : List AV} (e : S.get r = some (.lst xs)) : ∃ us, H (ι r) = some (.lst us) ∧ RVs X.K G ι S.n H xs us := by
  obtain ⟨u, h1, h2⟩ := rh.obj e
  cases h2 with
  | lst r => exact ⟨_, h1, r⟩
theorem RVs.eraseIdx {K : PySem.W.Frag} {G : Gx} {ι : Nat → Addr} {m : Nat} {H : Hp} : ∀ {xs : List AV} {vs : List V} (k : Nat), RVs K G ι m H xs vs → RVs K G ι m H (xs.eraseIdx k) (vs.eraseIdx k)
  | _, _, _, .nil => by simp only [List.eraseIdx_nil]; exact .nil
  | _, _, 0, .cons _ t => t
  | _, _, k + 1, .cons r t => .cons r (RVs.eraseIdx k t)
theorem RVs.dropLast {K : PySem.W.Frag} {G : Gx} {ι : Nat → Addr} {m : Nat} {H : Hp} {xs : List AV} {vs : List V} (r : RVs K G ι m H xs vs) : RVs K G ι m H xs.dropLast vs.dropLast := by
  rw [List.dropLast_eq_take, List.dropLast_eq_take, r.length]
  exact r.take _
theorem idxF_ok {ι : Nat → Addr} {m : Nat} {H : Hp} {G : Gx} {x : AV} {w : V} (r : RV X.K G ι m H x w) (fx : flat x = true) : ∀ {ys : List AV} {vs : List V} {i j : Nat}, RVs X.K G ι m H ys vs → ys.all flat = true → idxF x ys i = some j →
    i ≤ j ∧ ∃ z, vs[j - i]? = some z ∧ eqV z w = true ∧ ∀ (k : Nat) (z' : V), k < j - i → vs[k]? = some z' → eqV z' w = false
  | _, _, _, _, .nil, _, e => by cases e
  | _, _, i, j, .cons (x := y) (v := v) (xs := ys) r1 t, f, e => by
    rw [List.all_cons, Bool.and_eq_true] at f
    unfold idxF at e
    have eq := eqF_rel r1 r f.1 fx
    split at e
    · rename_i c
      cases e
      refine ⟨Nat.le_refl _, v, by rw [Nat.sub_self]; rfl, by rw [eq]; exact c, fun k z' hk _ => ?_⟩
      omega
    · rename_i c
      obtain ⟨h1, z, h2, h3, h4⟩ := idxF_ok r fx t f.2 e
      have hs : j - i = (j - (i + 1)) + 1 := by omega
      refine ⟨by omega, z, by rw [hs, List.getElem?_cons_succ]; exact h2, h3, fun k z' hk hz => ?_⟩
      cases k with
      | zero =>
        simp only [List.getElem?_cons_zero, Option.some.injEq] at hz
        subst hz
        rw [eq]
        cases hq : eqF y x with
        | true => exact absurd hq c
        | false => rfl
      | succ k => exact h4 k z' (by omega) (by simpa using hz)
theorem bmA_ok {t : Bt} {m : Bm} {id : String} (hid : bmId t m = some id) {x : AV} {w : V} {vs : List AV} {ws : List V} {ι : Nat → Addr} {S : Hs} {H : Hp} {Q : VK} {W' : Value → Option Addr → Hp → Prop} (rh : RH X.K P.G ι S H) (r : RV X.K P.G ι S.n H x w) (rs : RVs X.K P.G ι S.n H vs ws)
    (h : Aft X.K P.G (RVg X P.G) Q W' ι S H (bmA t m x vs S)) : mtW X id w ws H Q := by
  unfold bmA at h
  split at h
  · cases hid
    rename_i k y
    cases rs with
    | cons ry tt =>
      cases tt
      cases r with
      | ref hr =>
        split at h
        · rename_i ys e1
          split at h
          · rename_i c
            obtain ⟨us, h1, h2⟩ := lst_rel rh e1
            exact mtW.of mt_append ⟨_, us, _, rfl, rfl, h1, by rw [← h2.length]; exact c, h.setl rh hr h1 (h2.append (.cons ry .nil)) .non⟩
          · exact h.elim
        · exact h.elim
  · cases hid
    rename_i k
    cases rs
    cases r with
    | ref hr =>
      split at h
      · rename_i ys e1
        split at h
        · rename_i y e2
          obtain ⟨us, h1, h2⟩ := lst_rel rh e1
          obtain ⟨v, h3, h4⟩ := h2.get e2
          rw [h2.length] at h3
          exact mtW.of mt_pop ⟨_, us, v, rfl, rfl, h1, h3, h.setl rh hr h1 h2.dropLast h4⟩
        · exact h.elim
      · exact h.elim
  · cases hid
    rename_i k i
    cases rs with
    | cons ry tt =>
      cases tt; cases ry
      cases r with
      | ref hr =>
        split at h
        · rename_i ys e1
          split at h
          · rename_i c
            split at h
            · rename_i j e2
              split at h
              · rename_i y e3
                obtain ⟨us, h1, h2⟩ := lst_rel rh e1
                obtain ⟨v, h3, h4⟩ := h2.get e3
                exact mtW.of mt_popAt ⟨_, us, i, j, v, rfl, rfl, h1, c.1, c.2, by rw [← h2.length]; exact e2, h3, h.setl rh hr h1 (h2.eraseIdx j) h4⟩
              · exact h.elim
            · exact h.elim
          · exact h.elim
        · exact h.elim
  · cases hid
    rename_i k
    cases rs
    cases r with
    | ref hr =>
      split at h
      · rename_i ys e1
        obtain ⟨us, h1, h2⟩ := lst_rel rh e1
        exact mtW.of mt_clear ⟨_, us, rfl, rfl, h1, h.setl rh hr h1 .nil .non⟩
      · exact h.elim
  · cases hid
    rename_i k q
    cases rs with
    | cons ry tt =>
      cases tt
      cases r with
      | ref hr =>
        cases ry with
        | ref hq =>
          split at h
          · rename_i ys zs e1 e2
            split at h
            · rename_i c
              obtain ⟨us, h1, h2⟩ := lst_rel rh e1
              obtain ⟨vs, h3, h4⟩ := lst_rel rh e2
              exact mtW.of mt_extend ⟨_, _, us, vs, rfl, rfl, h1, h3, by rw [← h2.length, ← h4.length]; exact of_decide_eq_true c, h.setl rh hr h1 (h2.append h4) .non⟩
            · exact h.elim
          · exact h.elim
  · cases hid
    rename_i k y
    cases rs with
    | cons ry tt =>
      cases tt
      cases r with
      | ref hr =>
        split at h
        · rename_i ys e1
          split at h
          · rename_i c
            obtain ⟨c1, c2⟩ := Bool.and_eq_true_iff.mp c
            split at h
            · rename_i j e2
              obtain ⟨us, sq, rs⟩ := seqAt_rel rh e1
              obtain ⟨_, z, h2, h3, h4⟩ := idxF_ok ry c1 rs c2 e2
              exact mtW.ofR mt_index ⟨_, us, _, j, z, rfl, rfl, sq, flat_rel ry c1, flats_rel rs c2, h2, h3, h4, Aft.now (R := RVg X P.G) h rh (.int _)⟩
            · exact h.elim
          · exact h.elim
        · exact h.elim
  · cases hid
    rename_i z q
    cases rs with
    | cons ry tt =>
      cases tt
      cases r
      cases ry with
      | ref hq =>
        split at h
        · rename_i ys e1
          split at h
          · rename_i zs e2
            split at h
            · rename_i c
              obtain ⟨us, sq, rs⟩ := seqAt_rel rh e1
              rw [strs_rel rs e2] at sq
              exact mtW.ofR mt_join ⟨z, _, zs, rfl, rfl, .inl sq, c, Aft.now (R := RVg X P.G) h rh (.str _)⟩
            · exact h.elim
          · exact h.elim
        · exact h.elim
  · exact h.elim
/-- o.m(..), o of a built-in type -/
theorem snd_methB (g : Good P d W X) {o : E} {xo : Expr} {f : Nat} {m : Bm} {es : List E} {xs : List Expr} {apos : Pos} (ho : SndE P W X n o xo) (ha : All2 (SndE P W X n) es xs) (hs : xs.all (fun x => !isStarX x) = true)
    (hb : abOk xo = true) (hn : xs.length < 30) (hl : (apos.endLine == pos.line) = true) (ι : Nat → Addr) (S : Hs) (ρ : Ev) (σ : L2.St) (H : Hp) (Q : VK) (rh : RH X.K P.G ι S H) (re : RE X.K P.G ι S.n H ρ σ)
    (own : ∀ x S1, ev P n o ρ S = .ok x S1 → insAt S1 x = none)
    (h : Aft X.K P.G (RVg X P.G) Q (fun c d H' => W c d σ H') ι S H (ev P (n + 1) (.meth o f (some m) es) ρ S)) : tW X (.Call (.Attribute xo (bmN m) apos) xs [] pos) σ H Q := by
  intro pins s I
  refine wpAny_Call_method_late (abOk_eq hb _ _ _) (fewOk hs hn) hl rfl ?_
  refine thn (ho ι S ρ σ H (fun w H1 => ∃ t id, bmId t m = some id ∧ tyV X.K (btN t) w H1 ∧ tWc X xs σ H1 fun vs H2 => mtW X id w vs H2 Q) rh re (Aft.bind h fun v S1 e1 ι1 H1 w1 rh1 le1 r1 h1 => ?_) pins s I) fun v s1 ⟨w, H1, I1, r1, t, id, eid, ty, q⟩ => ?_
  · simp only [own v S1 e1] at h1
    cases et : tyB S1 v with
    | none => simp only [et] at h1; exact h1.elim
    | some t =>
      simp only [et] at h1
      cases eid : bmId t m with
      | none => simp only [eid, Option.isSome_none, Bool.false_eq_true, if_false] at h1; exact h1.elim
      | some id =>
        simp only [eid, Option.isSome_some, if_true] at h1
        refine ⟨t, id, eid, tyB_rel rh1 r1 et, ?_⟩
        exact snd_argc ha hs ι1 S1 H1 _ rh1 (re.mono le1) (Aft.bind (Ra := RVsX X P) h1 fun vs S2 _ ι2 H2 ws rh2 le2 r2 h2 => bmA_ok eid rh2 (RV.mono le2 r1) r2 h2)
  · obtain ⟨h1, h2⟩ := tyV_is I1 r1 ty
    obtain ⟨f1, f2, f3⟩ := bm_facts eid
    refine ⟨btN t, id, f1, f2, f3, h1, h2, ?_⟩
    rcases q with ⟨rfl, q⟩ | ⟨hne, q⟩
    · exact Calls.callWith_builtin rfl (PySem.evalArgs_none (q pins s1 σ v [] I1 r1 .nil))
    · cases xs with
      | nil => exact absurd rfl hne
      | cons y ys =>
        rw [List.all_cons, Bool.and_eq_true] at hs
        have hA := q pos pins s1 I1
        have hst := starEach_cons (env := X.env) (xs := ys) (x := y) (by simpa using hs.1)
        have hpl := noStars (env := X.env) (pos := pos) hs.2
        rw [hst] at hA ⊢
        refine Calls.callWith_builtin (by show (false || (backTo pos (starEach ys X.env)).any (·.1)) = false; rw [hpl]; rfl) (Calls.evalArgs_plain ?_)
        exact thn hA fun us s2 ⟨vs, H2, I2, r2, q2⟩ => q2 pins s2 σ v us I2 r1 r2
theorem snd_meth (g : Good P d W X) {o : E} {xo : Expr} {f : Nat} {x : Str} {bm : Option Bm} {es : List E} {xs : List Expr} {apos : Pos} (ho : SndE P W X n o xo) (hx : P.G.nms[f]? = some x) (ha : All2 (SndE P W X n) es xs) (hs : xs.all (fun x => !isStarX x) = true)
    (hm : MethF P X f x) (hbm : ∀ m, bm = some m → bmN m = x) (hb : abOk xo = true) (hn : xs.length < 30) (hl : (apos.endLine == pos.line) = true) : SndE P W X (n + 1) (.meth o f bm es) (.Call (.Attribute xo x apos) xs [] pos) := fun ι S ρ σ H Q rh re h => by
  cases e : ev P n o ρ S with
  | ok v S1 =>
    cases ei : insAt S1 v with
    | some kf => exact snd_methO g ho hx ha hs hm hb hn hl ι S ρ σ H Q rh re (fun x' S1' e' => by rw [e] at e'; cases e'; exact ⟨kf, ei⟩) h
    | none =>
      cases bm with
      | none =>
        have h' : Aft X.K P.G (RVg X P.G) Q (fun c d H' => W c d σ H') ι S H ((ev P n o ρ S).bind fun x S1 => (match insAt S1 x with
          | some (k, fs) => (match fs.lookup f, (P.G.cls[k]?).bind fun c => c.meths.lookup f with
              | none, some i => (evL (fun e S => ev P n e ρ S) es S1).bind fun vs S2 => P.C i (x :: vs) S2
              | _, _ => .bad)
          | none => .bad)) := h
        rw [e] at h'
        simp only [Rs.bind, ei] at h'
        exact h'.elim
      | some m =>
        have := hbm m rfl
        subst this
        exact snd_methB g ho ha hs hb hn hl ι S ρ σ H Q rh re (fun x' S1' e' => by rw [e] at e'; cases e'; exact ei) h
  | exc z S1 => exact snd_methO g ho hx ha hs hm hb hn hl ι S ρ σ H Q rh re (fun x' S1' e' => by rw [e] at e'; cases e') h
  | bad => exact snd_methO g ho hx ha hs hm hb hn hl ι S ρ σ H Q rh re (fun x' S1' e' => by rw [e] at e'; cases e') h
end
end Ab

namespace Ab
open PySem L2
section
variable {P : Pe} {d n m : Nat} {W : WX} {X : Cx} {pos : Pos} {a b c : E} {xa xb xc : Expr}
def tWg (X : Cx) (tg : Expr) : TG := fun v σ H Q => ∀ (pins : List (Addr × Obj)) (s : Shared) (u : Value), Inv X pins σ H s → RelV v u → wpAny (model X.prog X.w) X.A (assign tg X.env u) (fun _ s' => ∃ σ' H', Inv X pins σ' H' s' ∧ Q σ' H') X.xe s
theorem pgW {tg : Expr} : PG X tg (tWg X tg) := ⟨fun pins s _ _ _ u _ I r h => h pins s u I r⟩
theorem tWg.of {tg : Expr} {t : TG} (p : PG X tg t) {v : V} {σ : L2.St} {H : Hp} {Q : L2.St → Hp → Prop} (h : t v σ H Q) : tWg X tg v σ H Q := fun pins s u I r => p.run pins s σ H v u Q I r h
def tWgs (X : Cx) (ts : List Expr) : TGs := fun vs σ H Q => ∀ (pins : List (Addr × Obj)) (s : Shared) (us : List Value), Inv X pins σ H s → Vals vs us → wpAny (model X.prog X.w) X.A (assignInOrder ((assignEach ts X.env).map (·.2)) us) (fun _ s' => ∃ σ' H', Inv X pins σ' H' s' ∧ Q σ' H') X.xe s
theorem pgsW {ts : List Expr} : PGs X ts (tWgs X ts) := ⟨fun pins s _ _ _ us _ I r h => h pins s us I r⟩
theorem tWgs.of {ts : List Expr} {t : TGs} (p : PGs X ts t) {vs : List V} {σ : L2.St} {H : Hp} {Q : L2.St → Hp → Prop} (h : t vs σ H Q) : tWgs X ts vs σ H Q := fun pins s us I r => p.run pins s σ H vs us Q I r h
theorem assignEach_cons {x : Expr} {xs : List Expr} {env : Env} (h : isStarX x = false) : assignEach (x :: xs) env = (false, assign x env) :: assignEach xs env := by
  cases x <;> first | rfl | cases h
theorem assignEach_len {env : Env} : ∀ (xs : List Expr), xs.all (fun x => !isStarX x) = true → (assignEach xs env).length = xs.length ∧ (assignEach xs env).findIdx? (·.1) = none
  | [], _ => ⟨rfl, rfl⟩
  | x :: xs, h => by
    rw [List.all_cons, Bool.and_eq_true] at h
    rw [assignEach_cons (by simpa using h.1)]
    obtain ⟨h1, h2⟩ := assignEach_len (env := env) xs h.2
    refine ⟨by rw [List.length_cons, List.length_cons, h1], ?_⟩
    rw [List.findIdx?_cons]
    simp only [Bool.false_eq_true, if_false]
    rw [h2]; rfl
abbrev REg (X : Cx) (P : Pe) : Rl Ev L2.St := fun ι m H ρ σ => RE X.K P.G ι m H ρ σ
def SndG (P : Pe) (W : WX) (X : Cx) (n m : Nat) (t : Tg) (x : Expr) : Prop := ∀ (ι : Nat → Addr) (S : Hs) (ρ : Ev) (σ : L2.St) (H : Hp) (v : AV) (w : V) (Q : L2.St → Hp → Prop), RH X.K P.G ι S H → RE X.K P.G ι S.n H ρ σ → RV X.K P.G ι S.n H v w →
  Aft X.K P.G (REg X P) Q (fun c d H' => W c d σ H') ι S H (asg P.G (fun e ρ S => ev P n e ρ S) m t v ρ S) → tWg X x w σ H Q
theorem sng_nm (g : Good P d W X) {i : Nat} {x : Str} (hi : X.N[i]? = some x) (hx : Loc X.env.scope x) (hf : X.fn x = true) : SndG P W X n (m + 1) (.nm i) (.Name x pos) := fun ι S ρ σ H v w Q rh re r h => by
  refine tWg.of (pg_name g.nd hi hx (.inl hf)) ?_
  have h' : Aft X.K P.G (REg X P) Q (fun c d H' => W c d σ H') ι S H (if i < ρ.length then .ok (ρ.set i (some v)) S else .bad) := h
  split at h'
  · exact Aft.now (R := REg X P) h' rh (re.set i r)
  · exact h'.elim
theorem Aft.nox {K : PySem.W.Frag} {G : Gx} {α β γ δ : Type} {R : Rl α β} {Ra : Rl γ δ} {Q : β → Hp → Prop} {Q1 : δ → Hp → Prop} {W W' : Value → Option Addr → Hp → Prop} {ι : Nat → Addr} {S : Hs} {H : Hp} {r : Rs γ} {f : γ → Hs → Rs α} (h : Aft K G R Q W ι S H (r.nox.bind f))
    (k : ∀ v S1, r = .ok v S1 → ∀ ι1 H1 w, RH K G ι1 S1 H1 → Le K ι S.n H ι1 S1.n H1 → Ra ι1 S1.n H1 v w → Aft K G R Q W ι1 S1 H1 (f v S1) → Q1 w H1) : Aft K G Ra Q1 W' ι S H r := by
  cases r with
  | ok v S' => exact fun ι' H' w rh le rv => k v S' rfl ι' H' w rh le rv (Aft.shift h le)
  | exc x S' => exact h.elim
  | bad => exact h
theorem asgL_len {f : Tg → AV → Ev → Hs → Rs Ev} : ∀ {ts : List Tg} {vs : List AV} {ρ : Ev} {S : Hs}, asgL f ts vs ρ S = .bad ∨ ts.length = vs.length
  | [], [], _, _ => .inr rfl
  | [], _ :: _, _, _ => .inl rfl
  | _ :: _, [], _, _ => .inl rfl
  | t :: ts, v :: vs, ρ, S => by
    unfold asgL
    cases f t v ρ S with
    | bad => exact .inl rfl
    | exc x S1 => exact .inl rfl
    | ok ρ1 S1 =>
      rcases asgL_len (f := f) (ts := ts) (vs := vs) (ρ := ρ1) (S := S1) with h | h
      · exact .inl h
      · exact .inr (by rw [List.length_cons, List.length_cons, h])
theorem sng_list : ∀ {ts : List Tg} {xs : List Expr}, All2 (SndG P W X n m) ts xs → xs.all (fun x => !isStarX x) = true → ∀ (ι : Nat → Addr) (S : Hs) (ρ : Ev) (σ : L2.St) (H : Hp) (vs : List AV) (ws : List V) (Q : L2.St → Hp → Prop) (W' : Value → Option Addr → Hp → Prop), RH X.K P.G ι S H → RE X.K P.G ι S.n H ρ σ → RVs X.K P.G ι S.n H vs ws →
    Aft X.K P.G (REg X P) Q W' ι S H (asgL (asg P.G (fun e ρ S => ev P n e ρ S) m) ts vs ρ S) → tWgs X xs ws σ H Q
  | _, _, .nil, _ => fun ι S ρ σ H vs ws Q W' rh re r h => by
    cases r with
    | nil => exact tWgs.of pgs_nil ⟨rfl, Aft.now (R := REg X P) h rh re⟩
    | cons _ _ => exact h.elim
  | _, _, .cons (a := t) (b := x) (as := ts) (bs := xs) ht hr, hs => fun ι S ρ σ H vs ws Q W' rh re r h => by
    rw [List.all_cons, Bool.and_eq_true] at hs
    cases r with
    | nil => exact h.elim
    | cons r rr =>
      refine tWgs.of (pgs_cons pgW pgsW (by rw [assignEach_cons (by simpa using hs.1)]; rfl)) ⟨_, _, rfl, ?_⟩
      refine ht ι S ρ σ H _ _ _ rh re r (Aft.nox (Ra := REg X P) h fun ρ1 S1 _ ι1 H1 σ1 rh1 le1 re1 h1 => ?_)
      exact sng_list hr hs.2 ι1 S1 ρ1 σ1 H1 _ _ Q W' rh1 re1 (RVs.mono le1 rr) h1
theorem All2.length {α β : Type} {R : α → β → Prop} : ∀ {as : List α} {bs : List β}, All2 R as bs → as.length = bs.length
  | _, _, .nil => rfl
  | _, _, .cons _ t => by rw [List.length_cons, List.length_cons, All2.length t]
theorem sng_tp (g : Good P d W X) {ts : List Tg} {xs : List Expr} {k : Nat} (ht : All2 (SndG P W X n m) ts xs) (hs : xs.all (fun x => !isStarX x) = true) : SndG P W X n (m + 1) (.tp ts) (.Tuple xs k pos) := fun ι S ρ σ H v w Q rh re r h => by
  cases r with
  | @tup vs q ws sq rs =>
    have h' : Aft X.K P.G (REg X P) Q (fun c d H' => W c d σ H') ι S H (asgL (asg P.G (fun e ρ S => ev P n e ρ S) m) ts vs ρ S) := h
    obtain ⟨l1, l2⟩ := assignEach_len (env := X.env) xs hs
    refine tWg.of (pg_tup g.calm pgsW l1 l2) ⟨q, ws, rfl, sq, ?_, sng_list ht hs ι S ρ σ H vs ws Q _ rh re rs h'⟩
    rcases asgL_len (f := asg P.G (fun e ρ S => ev P n e ρ S) m) (ts := ts) (vs := vs) (ρ := ρ) (S := S) with e | e
    · rw [e] at h'; exact h'.elim
    · rw [← rs.length, ← e, ht.length]
  | _ => exact h.elim
/-- a field stored, by values -/
theorem RFs.put {K : PySem.W.Frag} {G : Gx} {ι : Nat → Addr} {m : Nat} {H : Hp} (nd : G.nms.Nodup) {f : Nat} {x : Str} (hf : G.nms[f]? = some x) {v : AV} {w : V} (r : RV K G ι m H v w) : ∀ {fs : List (Nat × AV)} {ws : List (Str × V)}, RFs K G ι m H fs ws → RFs K G ι m H (putF f v fs) (L2.putF x w ws)
  | _, _, .nil => .cons hf r .nil
  | _, _, .cons (k := k) (f := y) hk r1 t => by
    unfold putF L2.putF
    by_cases c : k = f
    · subst c
      rw [hf] at hk; cases hk
      rw [if_pos rfl, if_pos rfl]
      exact .cons hf r t
    · have cx : y ≠ x := fun e => by
        subst e
        exact c (nodup_ix nd hk hf)
      rw [if_neg c, if_neg cx]
      exact .cons hk r1 (RFs.put nd hf r t)
theorem RFs.length {K : PySem.W.Frag} {G : Gx} {ι : Nat → Addr} {m : Nat} {H : Hp} : ∀ {fs : List (Nat × AV)} {ws : List (Str × V)}, RFs K G ι m H fs ws → fs.length = ws.length
  | _, _, .nil => rfl
  | _, _, .cons _ _ t => by rw [List.length_cons, List.length_cons, RFs.length t]
theorem sng_fld (g : Good P d W X) {o : E} {xo : Expr} {f : Nat} {x : Str} (ho : SndE P W X n o xo) (hx : P.G.nms[f]? = some x) : SndG P W X n (m + 1) (.fld o f) (.Attribute xo x pos) := fun ι S ρ σ H v w Q rh re r h => by
  intro pins s u I ru
  show wpAny _ _ (do
    let ov ← holding [u] (eval xo X.env)
    standAt pos.atName
    holding [u, ov] (setAttr ov x u)
    release [u, ov] []) _ _ _
  refine wpAny_bind (wpAny_holding (thn (ho ι S ρ σ H (fun z H1 => (∃ a C dx ws, z = .ref a ∧ H1 a = some (.ins C dx ws) ∧ Cls X.K C ∧ NoAttr X.K C x ∧ ws.length < 1000 ∧ Q σ (upd H1 a (.ins C dx (L2.putF x w ws)))) ∨
      ∃ a C B i1 i2 bm, z = .ref a ∧ Xc X.K C B i1 i2 bm ∧ PySem.W.findIn X.K (.ref C) x = some none ∧ ((H1 a = some (L2.exo a C none) ∧ ∀ dx, H1 dx = none → dx ≠ a → Q σ (upd (upd H1 dx (L2.exd dx [(x, w)])) a (L2.exo a C (some dx)))) ∨
        ∃ dx fs, H1 a = some (L2.exo a C (some dx)) ∧ H1 dx = some (L2.exd dx fs) ∧ fs.length ≤ 900 ∧ Q σ (upd H1 dx (L2.exd dx ((x, w) :: fs))))) rh re (Aft.bind h fun z S1 _ ι1 H1 w1 rh1 le1 r1 h1 => ?_) pins s I) fun ov s1 ⟨z, H1, I1, rz, hh⟩ => ?_))
  · cases r1 with
    | @ref k hk =>
      have h2 : Aft X.K P.G (REg X P) Q (fun c d H' => W c d σ H') ι1 S1 H1 ((match S1.get k with
        | some (.ins c fs) => if fs.length < 1000 && isFld P.G c f then Rs.ok () (S1.set k (.ins c (putF f v fs))) else .bad
        | some (.exo c none) => if isXf P.G c f then Rs.ok () ((S1.push (.xdc [(f, v)])).set k (.exo c (some S1.n))) else .bad
        | some (.exo c (some n)) => (match S1.get n with
          | some (.xdc fs) => if decide (fs.length ≤ 900) && isXf P.G c f then Rs.ok () (S1.set n (.xdc ((f, v) :: fs))) else .bad
          | _ => .bad)
        | _ => .bad).bind fun _ S2 => .ok ρ S2) := h1
      cases e1 : S1.get k with
      | none => rw [e1] at h2; exact h2.elim
      | some o =>
        rw [e1] at h2
        obtain ⟨u1, hu, ru1⟩ := rh1.obj e1
        cases ru1 with
        | @ins kc c dx fs ws hc rf =>
          dsimp only at h2
          split at h2
          · rename_i cc
            obtain ⟨c1, c2⟩ := Bool.and_eq_true_iff.mp cc
            have hfl' : c.flds.contains f = true := by
              unfold isFld at c2
              rw [hc] at c2
              exact c2
            obtain ⟨y, hy, hna, hcl⟩ := g.mf.fld kc f c hc hfl'
            rw [hx] at hy; cases hy
            refine .inl ⟨_, _, dx, ws, rfl, hu, hcl, hna, by rw [← rf.length]; exact of_decide_eq_true c1, ?_⟩
            have le : Le X.K ι1 S1.n H1 ι1 (S1.set k (.ins kc (putF f v fs))).n (upd H1 (ι1 k) (.ins (He.ga X.K c.name) dx (L2.putF x w ws))) := Le.old hk hu trivial
            exact h2 ι1 _ σ (rh1.set hk hu trivial (.ins hc (RFs.put g.mf.nnd hx (RV.mono le1 r) rf))) le (re.mono (le1.trans le))
          · exact h2.elim
        | @exo kc c dd _ hc hlt eu =>
          cases dd with
          | none =>
            dsimp only at h2
            split at h2
            · rename_i hfl
              unfold isXf at hfl
              rw [hc] at hfl
              obtain ⟨hfl1, hfl2⟩ := Bool.and_eq_true_iff.mp hfl
              have T := g.mf.xcf kc c hc (of_decide_eq_true hfl2)
              obtain ⟨y, hy, hna⟩ := T.fl f hfl1
              rw [hx] at hy; cases hy
              obtain ⟨B, i1, i2, bm, Tx⟩ := T.xc
              have hu' : H1 (ι1 k) = some (L2.exo (ι1 k) (He.ga X.K c.name) none) := by rw [hu, eu]; rfl
              refine .inr ⟨_, _, B, i1, i2, bm, rfl, Tx, hna, .inl ⟨hu', fun dx hdx hne => ?_⟩⟩
              have rhA := rh1.push (o := .xdc [(f, v)]) (u := L2.exd dx [(x, w)]) hdx (.xdc (.cons hx (RV.mono le1 r) .nil) rfl)
              have leA : Le X.K ι1 S1.n H1 (ext ι1 S1.n dx) (S1.push (.xdc [(f, v)])).n (upd H1 dx (L2.exd dx [(x, w)])) := Le.push (S := S1) hdx
              have ek : ext ι1 S1.n dx k = ι1 k := ext_old hk
              have hkA : k < (S1.push (.xdc [(f, v)])).n := by rw [Hs.push_n]; omega
              have huA : upd H1 dx (L2.exd dx [(x, w)]) (ext ι1 S1.n dx k) = some (L2.exo (ι1 k) (He.ga X.K c.name) none) := by rw [ek, upd_ne (Ne.symm hne)]; exact hu'
              have rhB := rhA.set (o := .exo kc (some S1.n)) (u := L2.exo (ι1 k) (He.ga X.K c.name) (some dx)) hkA huA trivial (.exo hc (fun n hn => by cases hn; rw [Hs.push_n]; omega) (by rw [ek]; show _ = L2.exo _ _ (some (ext ι1 S1.n dx S1.n)); rw [ext_new]))
              have leB : Le X.K (ext ι1 S1.n dx) (S1.push (.xdc [(f, v)])).n (upd H1 dx (L2.exd dx [(x, w)])) (ext ι1 S1.n dx) ((S1.push (.xdc [(f, v)])).set k (.exo kc (some S1.n))).n (upd (upd H1 dx (L2.exd dx [(x, w)])) (ext ι1 S1.n dx k) (L2.exo (ι1 k) (He.ga X.K c.name) (some dx))) := Le.old hkA huA trivial
              rw [ek] at rhB leB
              have le := leA.trans leB
              exact h2 _ _ σ rhB le (re.mono (le1.trans le))
            · exact h2.elim
          | some n2 =>
            dsimp only at h2
            cases e2 : S1.get n2 with
            | none => rw [e2] at h2; exact h2.elim
            | some o2 =>
              rw [e2] at h2
              obtain ⟨u2, hu2, ru2⟩ := rh1.obj e2
              cases ru2 with
              | @xdc fs ws _ rf eu2 =>
                dsimp only at h2
                split at h2
                · rename_i cc
                  obtain ⟨c1, hfl⟩ := Bool.and_eq_true_iff.mp cc
                  unfold isXf at hfl
                  rw [hc] at hfl
                  obtain ⟨hfl1, hfl2⟩ := Bool.and_eq_true_iff.mp hfl
                  have T := g.mf.xcf kc c hc (of_decide_eq_true hfl2)
                  obtain ⟨y, hy, hna⟩ := T.fl f hfl1
                  rw [hx] at hy; cases hy
                  obtain ⟨B, i1, i2, bm, Tx⟩ := T.xc
                  have hk2 := Hs.lt_of_get e2
                  have hu3 : H1 (ι1 n2) = some (L2.exd (ι1 n2) ws) := by rw [hu2, eu2]
                  refine .inr ⟨_, _, B, i1, i2, bm, rfl, Tx, hna, .inr ⟨ι1 n2, ws, by rw [hu, eu]; rfl, hu3, by rw [← rf.length]; exact of_decide_eq_true c1, ?_⟩⟩
                  have le : Le X.K ι1 S1.n H1 ι1 (S1.set n2 (.xdc ((f, v) :: fs))).n (upd H1 (ι1 n2) (L2.exd (ι1 n2) ((x, w) :: ws))) := Le.old hk2 hu3 trivial
                  exact h2 ι1 _ σ (rh1.set hk2 hu3 trivial (.xdc (.cons hx (RV.mono le1 r) rf) rfl)) le (re.mono (le1.trans le))
                · exact h2.elim
              | _ => exact h2.elim
        | _ => exact h2.elim
    | _ => exact h1.elim
  · rcases hh with ⟨a, C, dx, ws, rfl, ea, hc, hn, hl, q⟩ | ⟨a, C, B, i1, i2, bm, rfl, T, hn, ⟨ea, q⟩ | ⟨dx, fs, ea, ed, hl, q⟩⟩
    · obtain rfl : ov = Value.ref a := rz
      refine wpAny_bind (wpAny_standAt (wpAny_bind (wpAny_holding (setattr_ok I1 ea hc hn hl ru fun s3 I3 => ?_))))
      exact wpAny_release ⟨σ, _, I3, q⟩
    · obtain rfl : ov = Value.ref a := rz
      refine wpAny_bind (wpAny_standAt (wpAny_bind (wpAny_holding (x_set0 T I1 ea hn ru fun dx s3 hdx hne I3 => ?_))))
      exact wpAny_release ⟨σ, _, I3, q dx hdx hne⟩
    · obtain rfl : ov = Value.ref a := rz
      refine wpAny_bind (wpAny_standAt (wpAny_bind (wpAny_holding (x_set1 T I1 ea ed hl hn ru fun s3 I3 => ?_))))
      exact wpAny_release ⟨σ, _, I3, q⟩
theorem RKs.append {K : PySem.W.Frag} {G : Gx} {ι : Nat → Addr} {m : Nat} {H : Hp} {κ : Type} : ∀ {xs ys : List (κ × AV)} {vs ws : List (κ × V)}, RKs K G ι m H xs vs → RKs K G ι m H ys ws → RKs K G ι m H (xs ++ ys) (vs ++ ws)
  | _, _, _, _, .nil, s => s
  | _, _, _, _, .cons r t, s => .cons r (RKs.append t s)
theorem RKs.repl {K : PySem.W.Frag} {G : Gx} {ι : Nat → Addr} {m : Nat} {H : Hp} {k : Key} {v : AV} {w : V} (r : RV K G ι m H v w) : ∀ {xs : List (Key × AV)} {vs : List (Key × V)}, RKs K G ι m H xs vs →
    RKs K G ι m H (xs.map fun kv => if kv.1 = k then (kv.1, v) else kv) (vs.map fun kv => if kv.1 = k then (kv.1, w) else kv)
  | _, _, .nil => .nil
  | _, _, .cons (k := k') r1 t => by
    rw [List.map_cons, List.map_cons]
    by_cases c : k' = k
    · simp only [c, if_true]
      exact .cons r (RKs.repl r t)
    · simp only [c, if_false]
      exact .cons r1 (RKs.repl r t)
theorem RKs.any {K : PySem.W.Frag} {G : Gx} {ι : Nat → Addr} {m : Nat} {H : Hp} {k : Key} : ∀ {xs : List (Key × AV)} {vs : List (Key × V)}, RKs K G ι m H xs vs → (xs.any fun kv => decide (kv.1 = k)) = vs.any fun kv => decide (kv.1 = k)
  | _, _, .nil => rfl
  | _, _, .cons _ t => by rw [List.any_cons, List.any_cons, RKs.any t]
theorem RKs.put {K : PySem.W.Frag} {G : Gx} {ι : Nat → Addr} {m : Nat} {H : Hp} {k : Key} {v : AV} {w : V} (r : RV K G ι m H v w) {kvs : List (Key × AV)} {ws : List (Key × V)} (h : RKs K G ι m H kvs ws) : RKs K G ι m H (putKA kvs k v) (putK ws k w) := by
  unfold putKA putK
  rw [RKs.any h]
  split
  · exact RKs.repl r h
  · exact h.append (.cons r .nil)
/-- o[i] = v, by values -/
def stW (X : Cx) : TSet := fun o i v H Q => ∀ (pins : List (Addr × Obj)) (s : Shared) (σ : L2.St) (ov iv u : Value), Inv X pins σ H s → RelV o ov → RelV i iv → RelV v u → wpAny (model X.prog X.w) X.A (setItem ov iv u) (fun _ s' => ∃ H', Inv X pins σ H' s' ∧ Q H') X.xe s
theorem pstW : PSet X (stW X) := fun pins s σ H o i v ov iv u Q I r1 r2 r3 h => h pins s σ ov iv u I r1 r2 r3
abbrev RU0 : Rl Unit Unit := fun _ _ _ _ _ => True
theorem setIA_ok (g : Good P d W X) {x y v : AV} {w1 w2 w3 : V} {ι : Nat → Addr} {S : Hs} {H : Hp} {Q : Hp → Prop} {W' : Value → Option Addr → Hp → Prop} (rh : RH X.K P.G ι S H) (r1 : RV X.K P.G ι S.n H x w1) (r2 : RV X.K P.G ι S.n H y w2) (r3 : RV X.K P.G ι S.n H v w3)
    (h : Aft X.K P.G RU0 (fun _ H' => Q H') W' ι S H (setIA x y v S)) : stW X w1 w2 w3 H Q := by
  cases r1 with
  | @ref k hk =>
    have h1 := h
    unfold setIA at h1
    dsimp only at h1
    cases e1 : S.get k with
    | none => rw [e1] at h1; exact h1.elim
    | some o =>
      rw [e1] at h1
      obtain ⟨u, hu, ru⟩ := rh.obj e1
      cases ru with
      | @lst xs vs rs =>
        cases r2 with
        | int i =>
          dsimp only at h1
          cases e2 : ixN xs.length i with
          | none => simp only [e2] at h1; exact h1.elim
          | some j =>
            simp only [e2] at h1
            have q : Q (upd H (ι k) (.lst (vs.set j w3))) := h1 ι _ () (rh.set hk hu trivial (.lst (rs.set r3 j))) (Le.old hk hu trivial) trivial
            exact fun pins s σ ov iv u I a1 a2 a3 => set_list pins s σ H _ _ _ ov iv u Q I a1 a2 a3 ⟨_, vs, i, j, rfl, rfl, hu, by rw [← rs.length]; exact e2, q⟩
        | _ => exact h1.elim
      | @dct kvs ws rk =>
        dsimp only at h1
        cases e2 : keyOf y with
        | none => simp only [e2] at h1; exact h1.elim
        | some kk =>
          simp only [e2] at h1
          split at h1
          · rename_i c
            have q : Q (upd H (ι k) (.dK (putK ws kk w3))) := h1 ι _ () (rh.set hk hu trivial (.dct (RKs.put r3 rk))) (Le.old hk hu trivial) trivial
            have dp : DPut H (ι k) w2 w3 (upd H (ι k) (.dK (putK ws kk w3))) := by
              rw [key_rel r2 e2]
              exact DPut.k hu (by rw [← rk_len (X := X) rk]; exact c)
            intro pins s σ ov iv u I a1 a2 a3
            obtain rfl : ov = Value.ref (ι k) := a1
            exact d_setItem (by have := g.room.units; omega) I dp a2 a3 fun s4 I4 => ⟨_, I4, q⟩
          · exact h1.elim
      | _ => exact h1.elim
  | _ => exact h.elim
theorem sng_ix (g : Good P d W X) {o i : E} {xo xi : Expr} (ho : SndE P W X n o xo) (hi : SndE P W X n i xi) (hs : noSl xi = true) : SndG P W X n (m + 1) (.ix o i) (.Subscript xo xi pos) := fun ι S ρ σ H v w Q rh re r h => by
  refine tWg.of (pg_sub peW peW pstW (fun v => by cases xi <;> first | rfl | cases hs)) ?_
  refine ho ι S ρ σ H _ rh re (Aft.bind h fun z S1 _ ι1 H1 w1 rh1 le1 r1 h1 => ?_)
  refine hi ι1 S1 ρ σ H1 _ rh1 (re.mono le1) (Aft.bind h1 fun j S2 _ ι2 H2 w2 rh2 le2 r2 h2 => ?_)
  refine setIA_ok g rh2 (RV.mono le2 r1) r2 (RV.mono (le1.trans le2) r) (Aft.bind (Ra := RU0) (Q1 := fun _ H' => Q σ H') h2 fun _ S3 _ ι3 H3 _ rh3 le3 _ h3 => ?_)
  exact Aft.now (R := REg X P) h3 rh3 (((re.mono le1).mono le2).mono le3)
end
end Ab

namespace Ab
open PySem L2
section
variable {P : Pe} {d n m : Nat} {W : WX} {X : Cx} {pos : Pos} {a b c : E} {xa xb xc : Expr}
def tWI (X : Cx) (tg iter : Expr) : TI := fun σ H R => ∀ (pins : List (Addr × Obj)) (s : Shared), Inv X pins σ H s → wpAny (model X.prog X.w) X.A (eval iter X.env) (fun v s1 => wpAny (model X.prog X.w) X.A (pyIter v) (PIE X pins σ tg R) X.xe s1) X.xe s
theorem piW {tg iter : Expr} : PI X tg iter (tWI X tg iter) := ⟨fun pins s _ _ _ I h => h pins s I⟩
theorem tWI.of {tg iter : Expr} {t : TI} (p : PI X tg iter t) {σ : L2.St} {H : Hp} {R : It → Hp → Prop} (h : t σ H R) : tWI X tg iter σ H R := fun pins s I => p.run pins s σ H R I h
/-- the interpreter's walk and the layer's -/
def RIt (K : PySem.W.Frag) (G : Gx) : Rl Itr It := fun ι0 m0 H0 t J => ∀ (ι : Nat → Addr) (S : Hs) (H : Hp) (i : Nat), RH K G ι S H → Lw K ι0 m0 H0 ι S.n H →
  (t.at i S = some none → J.stop i H) ∧ (∀ v, t.at i S = some (some v) → J.go i H ∧ ∀ x H', J.yld i H x H' → RH K G ι S H' ∧ Le K ι S.n H ι S.n H' ∧ RV K G ι S.n H' v x)
theorem RIt.seq {K : PySem.W.Frag} {G : Gx} {ι : Nat → Addr} {m : Nat} {H : Hp} {r : Nat} (hr : r < m) : RIt K G ι m H (.seq r) (Itl K (ι r)) := fun ι1 S1 H1 i rh le => by
  have e0 := le.ag r hr
  rw [← e0]
  refine ⟨fun e => ?_, fun v e => ?_⟩
  · have e1 : (match seqAt S1 r with | some xs => some xs[i]? | none => none) = some none := e
    cases h : seqAt S1 r with
    | none => rw [h] at e1; cases e1
    | some xs =>
      rw [h] at e1
      obtain ⟨us, sq, rs⟩ := seqAt_rel rh h
      refine ⟨us, sq, ?_⟩
      have e2 : xs[i]? = none := Option.some.inj e1
      rw [← rs.length]
      exact List.getElem?_eq_none_iff.mp e2
  · have e1 : (match seqAt S1 r with | some xs => some xs[i]? | none => none) = some (some v) := e
    cases h : seqAt S1 r with
    | none => rw [h] at e1; cases e1
    | some xs =>
      rw [h] at e1
      obtain ⟨us, sq, rs⟩ := seqAt_rel rh h
      obtain ⟨w, hw, rw'⟩ := rs.get (Option.some.inj e1)
      refine ⟨⟨us, w, sq, hw⟩, fun x H' y => ?_⟩
      obtain ⟨rfl, y⟩ := y
      have := y us sq
      rw [hw] at this; cases this
      exact ⟨rh, Le.refl, rw'⟩
theorem RIt.tup {K : PySem.W.Frag} {G : Gx} {ι : Nat → Addr} {m : Nat} {H : Hp} {xs : List AV} {q : Addr} {us : List V} (sq : SqT K H q us) (rs : RVs K G ι m H xs us) : RIt K G ι m H (.tup xs) (Itt K q) := fun ι1 S1 H1 i rh le => by
  have sq1 := le.tp _ _ sq
  have rs1 := RVs.monoW le rs
  refine ⟨fun e => ?_, fun v e => ?_⟩
  · have e2 : xs[i]? = none := Option.some.inj e
    exact ⟨us, sq1, by rw [← rs.length]; exact List.getElem?_eq_none_iff.mp e2⟩
  · obtain ⟨w, hw, rw'⟩ := rs1.get (Option.some.inj e)
    refine ⟨⟨us, w, sq1, hw⟩, fun x H' y => ?_⟩
    obtain ⟨rfl, y⟩ := y
    have := y us sq1
    rw [hw] at this; cases this
    exact ⟨rh, Le.refl, rw'⟩
theorem RIt.rng {K : PySem.W.Frag} {G : Gx} {ι : Nat → Addr} {m : Nat} {H : Hp} {lo : Int} {k : Nat} : RIt K G ι m H (.rng lo k) (L2.Itr lo k) := fun ι1 S1 H1 i rh le => by
  refine ⟨fun e => ?_, fun v e => ?_⟩
  · have e1 : some (if i < k then some (AV.int (lo + i)) else none) = some none := e
    by_cases c : i < k
    · rw [if_pos c] at e1; cases e1
    · exact Nat.le_of_not_lt c
  · have e1 : some (if i < k then some (AV.int (lo + i)) else none) = some (some v) := e
    by_cases c : i < k
    · rw [if_pos c] at e1; cases e1
      refine ⟨c, fun x H' y => ?_⟩
      obtain ⟨rfl, rfl⟩ := y
      exact ⟨rh, Le.refl, .int _⟩
    · rw [if_neg c] at e1; cases e1
theorem RIt.str {K : PySem.W.Frag} {G : Gx} {ι : Nat → Addr} {m : Nat} {H : Hp} {x : Str} : RIt K G ι m H (.str x) (Its x) := fun ι1 S1 H1 i rh le => by
  refine ⟨fun e => ?_, fun v e => ?_⟩
  · have e1 : (x.cps.toList[i]?).map (fun c => AV.str ⟨#[c]⟩) = none := Option.some.inj e
    have e2 := Option.map_eq_none_iff.mp e1
    have := List.getElem?_eq_none_iff.mp e2
    show x.cps.size ≤ i
    simpa using this
  · have e1 : (x.cps.toList[i]?).map (fun c => AV.str ⟨#[c]⟩) = some v := Option.some.inj e
    obtain ⟨c, h1, h2⟩ := Option.map_eq_some_iff.mp e1
    have hi : i < x.cps.size := by have := (List.getElem?_eq_some_iff.mp h1).1; simpa using this
    refine ⟨hi, fun y H' q => ?_⟩
    obtain ⟨rfl, c', h3, rfl⟩ := q
    have : c = c' := by
      rw [Array.getElem?_toList] at h1
      rw [h1] at h3
      exact Option.some.inj h3
    subst this
    subst h2
    exact ⟨rh, Le.refl, .str _⟩
theorem RIt.enL {K : PySem.W.Frag} {G : Gx} {ι : Nat → Addr} {m : Nat} {H : Hp} {r : Nat} (hr : r < m) : RIt K G ι m H (.enL r) (Ite K (ι r)) := fun ι1 S1 H1 i rh le => by
  have e0 := le.ag r hr
  rw [← e0]
  refine ⟨fun e => ?_, fun v e => ?_⟩
  · have e1 : (match seqAt S1 r with | some xs => some (xs[i]?.map fun x => AV.tup [.int i, x]) | none => none) = some none := e
    cases h : seqAt S1 r with
    | none => rw [h] at e1; cases e1
    | some xs =>
      rw [h] at e1
      obtain ⟨us, sq, rs⟩ := seqAt_rel rh h
      refine ⟨us, sq, ?_⟩
      have e2 : xs[i]? = none := Option.map_eq_none_iff.mp (Option.some.inj e1)
      rw [← rs.length]
      exact List.getElem?_eq_none_iff.mp e2
  · have e1 : (match seqAt S1 r with | some xs => some (xs[i]?.map fun x => AV.tup [.int i, x]) | none => none) = some (some v) := e
    cases h : seqAt S1 r with
    | none => rw [h] at e1; cases e1
    | some xs =>
      rw [h] at e1
      obtain ⟨us, sq, rs⟩ := seqAt_rel rh h
      obtain ⟨z, hz, ez⟩ := Option.map_eq_some_iff.mp (Option.some.inj e1)
      obtain ⟨w, hw, rw'⟩ := rs.get hz
      refine ⟨⟨us, w, sq, hw⟩, fun x H' y => ?_⟩
      obtain ⟨T, x', rfl, hT, rfl, y⟩ := y
      have := y us sq
      rw [hw] at this; cases this
      subst ez
      exact ⟨rh.off hT, Le.new hT, .tup (SqT.of upd_same) (.cons (.int _) (.cons (RV.mono (Le.new hT) rw') .nil))⟩
def SndI (P : Pe) (W : WX) (X : Cx) (n : Nat) (s : Src) (tg iter : Expr) : Prop := ∀ (ι : Nat → Addr) (S : Hs) (ρ : Ev) (σ : L2.St) (H : Hp) (R : It → Hp → Prop), RH X.K P.G ι S H → RE X.K P.G ι S.n H ρ σ →
  Aft X.K P.G (RIt X.K P.G) R (fun c d H' => W c d σ H') ι S H (srcA (fun e S => ev P n e ρ S) s S) → tWI X tg iter σ H R
abbrev RItg (X : Cx) (P : Pe) : Rl Itr It := RIt X.K P.G
theorem sni_e {tg : Expr} (ha : SndE P W X n a xa) : SndI P W X n (.e a) tg xa := fun ι S ρ σ H R rh re h => by
  cases e : ev P n a ρ S with
  | bad => simp only [srcA, e, Rs.bind] at h; exact h.elim
  | exc z S1 =>
    refine tWI.of (pi_list peW) (ha ι S ρ σ H _ rh re (Aft.bind h fun v S1 e1 ι1 H1 w1 rh1 le1 r1 h1 => ?_))
    rw [e] at e1; cases e1
  | ok v S1 =>
    cases v with
    | tup xs =>
      refine tWI.of (pi_tup peW) (ha ι S ρ σ H _ rh re (Aft.bind h fun v S1 e1 ι1 H1 w1 rh1 le1 r1 h1 => ?_))
      rw [e] at e1; cases e1
      cases r1 with
      | tup sq rs => exact ⟨_, rfl, ⟨_, sq⟩, Aft.now (R := RItg X P) h1 rh1 (RIt.tup sq rs)⟩
    | str x =>
      refine tWI.of (pi_str peW) (ha ι S ρ σ H _ rh re (Aft.bind h fun v S1 e1 ι1 H1 w1 rh1 le1 r1 h1 => ?_))
      rw [e] at e1; cases e1
      cases r1
      exact ⟨x, rfl, Aft.now (R := RItg X P) h1 rh1 RIt.str⟩
    | ref r =>
      refine tWI.of (pi_list peW) (ha ι S ρ σ H _ rh re (Aft.bind h fun v S1 e1 ι1 H1 w1 rh1 le1 r1 h1 => ?_))
      rw [e] at e1; cases e1
      cases r1 with
      | ref hr =>
        dsimp only at h1
        cases es : seqAt S1 r with
        | none => simp only [es] at h1; exact h1.elim
        | some xs =>
          simp only [es] at h1
          obtain ⟨us, sq, rs⟩ := seqAt_rel rh1 es
          exact ⟨_, rfl, ⟨us, sq⟩, Aft.now (R := RItg X P) h1 rh1 (RIt.seq hr)⟩
    | _ =>
      refine tWI.of (pi_list peW) (ha ι S ρ σ H _ rh re (Aft.bind h fun v S1 e1 ι1 H1 w1 rh1 le1 r1 h1 => ?_))
      rw [e] at e1; cases e1
      exact h1.elim
theorem sni_rng1 (g : Good P d W X) {tg : Expr} {p : Pos} (ha : SndE P W X n a xa) (hs : isStarX xa = false) (hg : Gl X "range") : SndI P W X n (.rng none a) tg (.Call (.Name "range" p) [xa] [] pos) := fun ι S ρ σ H R rh re h => by
  refine tWI.of (pi_range1 hg (g.mf.free _ (by decide +kernel)) (pa_cons peW pa_nil (starEach_cons hs)) (starEach_cons hs)) ?_
  refine ha ι S ρ σ H _ rh re (Aft.bind h fun v S1 e1 ι1 H1 w1 rh1 le1 r1 h1 => ?_)
  cases r1 with
  | int i =>
    dsimp only at h1
    split at h1
    · rename_i c
      exact ⟨i, rfl, c.1, c.2, Aft.now (R := RItg X P) h1 rh1 RIt.rng⟩
    · exact h1.elim
  | _ => exact h1.elim
theorem sni_rng2 (g : Good P d W X) {tg : Expr} {p : Pos} (ha : SndE P W X n a xa) (hb : SndE P W X n b xb) (hs : isStarX xa = false) (hs2 : isStarX xb = false) (hg : Gl X "range") : SndI P W X n (.rng (some a) b) tg (.Call (.Name "range" p) [xa, xb] [] pos) := fun ι S ρ σ H R rh re h => by
  refine tWI.of (pi_range2 hg (g.mf.free _ (by decide +kernel)) (pa_cons peW (pa_cons peW pa_nil (starEach_cons hs2)) (starEach_cons hs)) (by rw [starEach_cons hs, starEach_cons hs2]; rfl) (starEach_cons hs2)) ?_
  refine ha ι S ρ σ H _ rh re (Aft.bind h fun v S1 e1 ι1 H1 w1 rh1 le1 r1 h1 => ?_)
  refine hb ι1 S1 ρ σ H1 _ rh1 (re.mono le1) (Aft.bind h1 fun v2 S2 e2 ι2 H2 w2 rh2 le2 r2 h2 => ?_)
  cases r1 with
  | int i =>
    cases r2 with
    | int j =>
      dsimp only at h2
      split at h2
      · rename_i c
        exact ⟨i, j, rfl, ⟨c.1.1, c.1.2, c.2.1, c.2.2⟩, Aft.now (R := RItg X P) h2 rh2 RIt.rng⟩
      · exact h2.elim
    | _ => exact h2.elim
  | _ => cases r2 <;> exact h2.elim
theorem sni_enL (g : Good P d W X) {elts : List Expr} {kk : Nat} {tpos p : Pos} (ha : SndE P W X n a xa) (hs : isStarX xa = false) (hg : Gl X "enumerate") : SndI P W X n (.enm a) (.Tuple elts kk tpos) (.Call (.Name "enumerate" p) [xa] [] pos) := fun ι S ρ σ H R rh re h => by
  refine tWI.of (pi_enum hg (g.mf.free _ (by decide +kernel)) (pa_cons peW pa_nil (starEach_cons hs)) (starEach_cons hs)) ?_
  refine ha ι S ρ σ H _ rh re (Aft.bind h fun v S1 e1 ι1 H1 w1 rh1 le1 r1 h1 => ?_)
  cases r1 with
  | @ref r hr =>
    dsimp only at h1
    cases es : seqAt S1 r with
    | none => simp only [es] at h1; exact h1.elim
    | some xs =>
      simp only [es] at h1
      obtain ⟨us, sq, rs⟩ := seqAt_rel rh1 es
      exact ⟨_, us, rfl, sq, Aft.now (R := RItg X P) h1 rh1 (RIt.enL hr)⟩
  | _ => exact h1.elim

/-- what an end of a statement asks -/
def AftR (P : Pe) (W : WX) (X : Cx) (D : Ends) (ι : Nat → Addr) (S : Hs) (H : Hp) (r : Re) : Prop := match r with
  | .fl (.nx ρ) S' => ∀ ι' H' σ', RH X.K P.G ι' S' H' → Le X.K ι S.n H ι' S'.n H' → RE X.K P.G ι' S'.n H' ρ σ' → D.nx σ' H'
  | .fl (.rt v) S' => ∀ ι' H' w, RH X.K P.G ι' S' H' → Le X.K ι S.n H ι' S'.n H' → RV X.K P.G ι' S'.n H' v w → D.rt w H'
  | .fl (.bk ρ) S' => ∀ ι' H' σ', RH X.K P.G ι' S' H' → Le X.K ι S.n H ι' S'.n H' → RE X.K P.G ι' S'.n H' ρ σ' → D.bk σ' H'
  | .fl (.ct ρ) S' => ∀ ι' H' σ', RH X.K P.G ι' S' H' → Le X.K ι S.n H ι' S'.n H' → RE X.K P.G ι' S'.n H' ρ σ' → D.ct σ' H'
  | .exc x ρ S' => ∀ ι' H' σ' c d, RH X.K P.G ι' S' H' → Le X.K ι S.n H ι' S'.n H' → RE X.K P.G ι' S'.n H' ρ σ' → RX X.K P.G ι' S'.n H' x c d → W c d σ' H'
  | .bad => False
theorem AftR.shift {D : Ends} {ι ι1 : Nat → Addr} {S S1 : Hs} {H H1 : Hp} {r : Re} (h : AftR P W X D ι S H r) (le : Le X.K ι S.n H ι1 S1.n H1) : AftR P W X D ι1 S1 H1 r := by
  cases r with
  | fl f S' => cases f <;> exact fun ι' H' z rh le' rv => h ι' H' z rh (le.trans le') rv
  | exc x ρ S' => exact fun ι' H' σ' c d rh le' re rx => h ι' H' σ' c d rh (le.trans le') re rx
  | bad => exact h
theorem AftR.st {α β : Type} {Ra : Rl α β} {Q1 : β → Hp → Prop} {D : Ends} {ι : Nat → Addr} {S : Hs} {H : Hp} {ρ : Ev} {σ : L2.St} {r : Rs α} {f : α → Hs → Re} (h : AftR P W X D ι S H (r.st ρ f)) (re : RE X.K P.G ι S.n H ρ σ)
    (k : ∀ v S1, r = .ok v S1 → ∀ ι1 H1 w, RH X.K P.G ι1 S1 H1 → Le X.K ι S.n H ι1 S1.n H1 → Ra ι1 S1.n H1 v w → AftR P W X D ι1 S1 H1 (f v S1) → Q1 w H1) : Aft X.K P.G Ra Q1 (fun c d H' => W c d σ H') ι S H r := by
  cases r with
  | ok v S' => exact fun ι' H' w rh le rv => k v S' rfl ι' H' w rh le rv (AftR.shift h le)
  | exc x S' => exact fun ι' H' c d rh le rx => h ι' H' σ c d rh le (re.mono le) rx
  | bad => exact h
def SndSt (P : Pe) (W : WX) (X : Cx) (n : Nat) (s : St) (x : Stmt) : Prop := ∀ (ι : Nat → Addr) (S : Hs) (ρ : Ev) (σ : L2.St) (H : Hp) (D : Ends), RH X.K P.G ι S H → RE X.K P.G ι S.n H ρ σ → AftR P W X D ι S H (ex P n s ρ S) → tWs X x D σ H
def SndSs (P : Pe) (W : WX) (X : Cx) (n : Nat) (s : List St) (x : List Stmt) : Prop := ∀ (ι : Nat → Addr) (S : Hs) (ρ : Ev) (σ : L2.St) (H : Hp) (D : Ends), RH X.K P.G ι S H → RE X.K P.G ι S.n H ρ σ → AftR P W X D ι S H (exs (fun s ρ S => ex P n s ρ S) s ρ S) → tWss X x D σ H
theorem sns_nil : SndSs P W X n [] [] := fun ι S ρ σ H D rh re h => tWss.of pss_nil (h ι H σ rh Le.refl re)
theorem sns_cons {s : St} {ss : List St} {x : Stmt} {xs : List Stmt} (h1 : SndSt P W X n s x) (h2 : SndSs P W X n ss xs) : SndSs P W X n (s :: ss) (x :: xs) := fun ι S ρ σ H D rh re h => by
  refine tWss.of (pss_cons psW pssW) ?_
  refine h1 ι S ρ σ H _ rh re ?_
  have h' : AftR P W X D ι S H ((ex P n s ρ S).seq fun ρ1 S1 => exs (fun s ρ S => ex P n s ρ S) ss ρ1 S1) := h
  cases e : ex P n s ρ S with
  | bad => rw [e] at h'; exact h'
  | exc z ρ1 S1 => rw [e] at h'; exact h'
  | fl f S1 =>
    rw [e] at h'
    cases f with
    | nx ρ1 => exact fun ι1 H1 σ1 rh1 le1 re1 => h2 ι1 S1 ρ1 σ1 H1 D rh1 re1 (AftR.shift h' le1)
    | rt v => exact h'
    | bk ρ1 => exact h'
    | ct ρ1 => exact h'
theorem sns_all : ∀ {ss : List St} {xs : List Stmt}, All2 (SndSt P W X n) ss xs → SndSs P W X n ss xs
  | _, _, .nil => sns_nil
  | _, _, .cons h t => sns_cons h (sns_all t)
theorem snst_zero {s : St} {x : Stmt} : SndSt P W X 0 s x := fun _ _ _ _ _ _ _ _ h => h.elim
theorem snst_pass : SndSt P W X (n + 1) .pass (.Pass pos) := fun ι S ρ σ H D rh re h => tWs.of ps_pass (h ι H σ rh Le.refl re)
theorem snst_brk : SndSt P W X (n + 1) .brk (.Break pos) := fun ι S ρ σ H D rh re h => tWs.of ps_break (h ι H σ rh Le.refl re)
theorem snst_cnt : SndSt P W X (n + 1) .cnt (.Continue pos) := fun ι S ρ σ H D rh re h => tWs.of ps_continue (h ι H σ rh Le.refl re)
theorem snst_retN : SndSt P W X (n + 1) (.ret none) (.Return none pos) := fun ι S ρ σ H D rh re h => tWs.of ps_retN (h ι H .non rh Le.refl .non)
theorem snst_ret (ha : SndE P W X n a xa) : SndSt P W X (n + 1) (.ret (some a)) (.Return (some xa) pos) := fun ι S ρ σ H D rh re h => by
  refine tWs.of (ps_ret peW) (ha ι S ρ σ H _ rh re (AftR.st h re fun v S1 _ ι1 H1 w1 rh1 le1 r1 h1 => ?_))
  exact h1 ι1 H1 w1 rh1 Le.refl r1
def isComp : Expr → Bool
  | .ListComp .. => true
  | .SetComp .. => true
  | .DictComp .. => true
  | _ => false
theorem swapsWith_no {e : Expr} {t : Option Expr} {l : Nat} {env : Env} (h : isComp e = false) : swapsWith e t l env = pure false := by
  cases e <;> first | rfl | cases h
theorem snst_expr (ha : SndE P W X n a xa) (hc : isComp xa = false) : SndSt P W X (n + 1) (.expr a) (.Expr xa pos) := fun ι S ρ σ H D rh re h => by
  refine tWs.of (ps_expr peW (swapsWith_no hc)) (ha ι S ρ σ H _ rh re (AftR.st h re fun v S1 _ ι1 H1 w1 rh1 le1 r1 h1 => ?_))
  exact h1 ι1 H1 σ rh1 Le.refl (re.mono le1)
theorem snst_if {sa sb : List St} {ta tb : List Stmt} (hc : SndT P W X n c xc) (ha : SndSs P W X n sa ta) (hb : SndSs P W X n sb tb) : SndSt P W X (n + 1) (.ife c sa sb) (.If xc ta tb pos) := fun ι S ρ σ H D rh re h => by
  refine tWs.of (ps_if ptW pssW pssW) (hc ι S ρ σ H _ rh re (AftR.st (Ra := RB) h re fun k S1 _ ι1 H1 k' rh1 le1 ek h1 => ?_))
  subst ek
  cases k with
  | true => rw [if_pos rfl] at h1 ⊢; exact ha ι1 S1 ρ σ H1 D rh1 (re.mono le1) h1
  | false => rw [if_neg Bool.false_ne_true] at h1 ⊢; exact hb ι1 S1 ρ σ H1 D rh1 (re.mono le1) h1
def foldsOk : Expr → Bool
  | .Set .. => false
  | _ => true
/-- what holds where the interpreter goes on by k from a state -/
def Goes1 (P : Pe) (W : WX) (X : Cx) (D : Ends) (ι1 : Nat → Addr) (S1 : Hs) (H1 : Hp) (k : Ev → Hs → Re) : L2.St → Hp → Prop := fun σ H => ∃ ι S ρ, RH X.K P.G ι S H ∧ Le X.K ι1 S1.n H1 ι S.n H ∧ RE X.K P.G ι S.n H ρ σ ∧ AftR P W X D ι S H (k ρ S)
theorem AftR.turn {D : Ends} {ι1 ι : Nat → Addr} {S1 S : Hs} {H1 H : Hp} {r : Re} {k : Ev → Hs → Re} (h : AftR P W X D ι S H (turnR r k)) (le : Le X.K ι1 S1.n H1 ι S.n H) : AftR P W X { nx := Goes1 P W X D ι1 S1 H1 k, rt := D.rt, bk := D.nx, ct := Goes1 P W X D ι1 S1 H1 k } ι S H r := by
  cases r with
  | bad => exact h
  | exc z ρ1 S3 => exact h
  | fl f S3 =>
    cases f with
    | nx ρ1 => exact fun ι3 H3 σ3 rh3 le3 re3 => ⟨ι3, S3, ρ1, rh3, le.trans le3, re3, AftR.shift h le3⟩
    | ct ρ1 => exact fun ι3 H3 σ3 rh3 le3 re3 => ⟨ι3, S3, ρ1, rh3, le.trans le3, re3, AftR.shift h le3⟩
    | bk ρ1 => exact h
    | rt v => exact h
theorem snst_for (g : Good P d W X) {t : Tg} {tg : Expr} {s : Src} {iter : Expr} {sb : List St} {tb : List Stmt} (ht : SndG P W X n n t tg) (hs : SndI P W X n s tg iter) (hb : SndSs P W X n sb tb) (hf : ∀ x, foldedSetIterable iter X.env x = pure x) : SndSt P W X (n + 1) (.for_ t s sb) (.For tg iter tb [] pos) := fun ι S ρ σ H D rh re h => by
  refine tWs.of (ps_for g.own g.calm piW pgW pssW hf) (hs ι S ρ σ H _ rh re (AftR.st (Ra := RItg X P) h re fun it S1 _ ι1 H1 J rh1 le1 rj h1 => ?_))
  generalize hF : (fun (v : AV) (ρ : Ev) (S : Hs) => (asg P.G (fun e ρ S => ev P n e ρ S) n t v ρ S).st ρ fun ρ1 S2 => exs (fun s ρ S => ex P n s ρ S) sb ρ1 S2) = F at h1
  refine ⟨fun i k => Goes1 P W X D ι1 S1 H1 (forI it F k i), ⟨turns, ι1, S1, ρ, rh1, Le.refl, re.mono le1, h1⟩, ?_⟩
  rintro i k σ' H' ⟨ι', S', ρ', rh', le', re', h'⟩
  cases k with
  | zero => exact h'.elim
  | succ k =>
    unfold forI at h'
    obtain ⟨q1, q2⟩ := rj ι' S' H' i rh' le'.w
    cases e : it.at i S' with
    | none => rw [e] at h'; exact h'.elim
    | some o =>
      cases o with
      | none =>
        rw [e] at h'
        exact .inl ⟨q1 e, h' ι' H' σ' rh' Le.refl re'⟩
      | some v =>
        rw [e] at h'
        obtain ⟨go, yl⟩ := q2 v e
        refine .inr ⟨go, Goes1 P W X D ι1 S1 H1 (forI it F k (i + 1)), fun σ2 H2 z => ⟨k, Nat.lt_succ_self _, z⟩, fun x H2 y => ?_⟩
        obtain ⟨rh2, le2, rv2⟩ := yl x H2 y
        have re2 := re'.mono le2
        have h2 := AftR.shift (AftR.turn h' le') le2
        rw [← hF] at h2
        refine ht ι' S' ρ' σ' H2 v x _ rh2 re2 rv2 (AftR.st (Ra := REg X P) h2 re2 fun ρ1 S3 _ ι3 H3 σ3 rh3 le3 re3 h3 => ?_)
        rw [← hF]
        exact hb ι3 S3 ρ1 σ3 H3 _ rh3 re3 h3
theorem snst_whl (g : Good P d W X) {sb : List St} {tb : List Stmt} (hc : SndT P W X n c xc) (hb : SndSs P W X n sb tb) : SndSt P W X (n + 1) (.whl c sb) (.While xc tb [] pos) := fun ι S ρ σ H D rh re h => by
  refine tWs.of (ps_while g.own ptW pssW) ?_
  refine ⟨fun k => Goes1 P W X D ι S H (whlI (fun ρ S => (ev P n c ρ S).bind tstA) (fun ρ S => exs (fun s ρ S => ex P n s ρ S) sb ρ S) k), ⟨turns, ι, S, ρ, rh, Le.refl, re, h⟩, ?_⟩
  rintro k σ' H' ⟨ι', S', ρ', rh', le', re', h'⟩
  cases k with
  | zero => exact h'.elim
  | succ k =>
    unfold whlI at h'
    refine hc ι' S' ρ' σ' H' _ rh' re' (AftR.st (Ra := RB) h' re' fun b S2 _ ι2 H2 b' rh2 le2 eb h2 => ?_)
    subst eb
    cases b with
    | true =>
      rw [if_pos rfl] at h2 ⊢
      refine ⟨Goes1 P W X D ι S H (whlI (fun ρ S => (ev P n c ρ S).bind tstA) (fun ρ S => exs (fun s ρ S => ex P n s ρ S) sb ρ S) k), fun σ3 H3 z => ⟨k, Nat.lt_succ_self _, z⟩, ?_⟩
      exact hb ι2 S2 ρ' σ' H2 _ rh2 (re'.mono le2) (AftR.turn h2 (le'.trans le2))
    | false =>
      rw [if_neg Bool.false_ne_true] at h2 ⊢
      exact h2 ι2 H2 σ' rh2 Le.refl (re'.mono le2)
end
end Ab

namespace Ab
open PySem L2
section
variable {P : Pe} {d n m : Nat} {W : WX} {X : Cx} {pos : Pos} {a b c : E} {xa xb xc : Expr}
def isNameX : Expr → Bool
  | .Name .. => true
  | _ => false
theorem swapsSole_no {tg e : Expr} {l : Nat} {env : Env} (h : (!isComp e || !isNameX tg) = true) : swapsWithSole [tg] e l env = pure false := by
  show swapsWith e (some tg) l env = pure false
  cases hc : isComp e with
  | false => exact swapsWith_no hc
  | true =>
    rw [hc] at h
    cases tg <;> first | exact absurd (show false = true from h) Bool.false_ne_true | (cases e <;> first | rfl | cases hc)
/-- the names of a swapped store -/
def swSt (sc : Scope) (ts vs : List Expr) : Option (Option (List Str)) :=
  if !(ts.length == 2 || ts.length == 3) || vs.length != ts.length then some none
  else if vs.any (fun | .Starred .. => true | _ => false) then some none
  else
    let line := (ts.head?.map (·.pos.line)).getD 0
    let names := ts.filterMap fun
      | .Name id pos => if sc.names.lookup id == some .local && pos.line == line then some id else none
      | _ => none
    if names.length != ts.length || names.eraseDups.length != names.length then some none
    else if vs.all (foldedForSure 8) then some none
    else if vs.all (constantsAlone 8) then none
    else some (some names)
theorem swSt_ok {env : Env} (hk : env.scope.kind = .function) {ts vs : List Expr} {r : Option (List Str)} {k k2 : Nat} {p p2 : Pos} (h : swSt env.scope ts vs = some r) : swappedStores [.Tuple ts k p] (.Tuple vs k2 p2) env = pure r := by
  have hb : (env.blockKind != .function) = false := by unfold Env.blockKind; rw [hk]; rfl
  unfold swSt at h
  unfold swappedStores
  dsimp only at h ⊢
  rw [hb, Bool.or_false]
  split at h
  · rename_i c1
    cases h
    exact if_pos c1
  · rename_i c1
    refine Eq.trans (if_neg c1) ?_
    split at h
    · rename_i c2
      cases h
      exact if_pos c2
    · rename_i c2
      refine Eq.trans (if_neg c2) ?_
      split at h
      · rename_i c3
        cases h
        exact if_pos c3
      · rename_i c3
        refine Eq.trans (if_neg c3) ?_
        split at h
        · rename_i c4
          cases h
          exact if_pos c4
        · rename_i c4
          refine Eq.trans (if_neg c4) ?_
          split at h
          · cases h
          · rename_i c5
            cases h
            exact if_neg c5
def noTT : Expr → Expr → Bool
  | .Tuple .., .Tuple .. => false
  | .List .., .Tuple .. => false
  | _, _ => true
theorem swapped_no {tg e : Expr} {env : Env} (h : noTT tg e = true) : swappedStores [tg] e env = pure none := by
  cases tg <;> first | rfl | (cases e <;> first | rfl | cases h)
theorem each1 {tg : Expr} {env : Env} (h : isStarX tg = false) : (assignEach [tg] env).map (·.2) = [assign tg env] := by rw [assignEach_cons h]; rfl
/-- target = value -/
theorem snst_asg {t : Tg} {tg : Expr} (ht : SndG P W X n n t tg) (ha : SndE P W X n a xa) (h1 : (!isComp xa || !isNameX tg) = true) (h2 : noTT tg xa = true) (h3 : isStarX tg = false) : SndSt P W X (n + 1) (.asg t a) (.Assign [tg] xa pos) := fun ι S ρ σ H D rh re h => by
  refine tWs.of (ps_asg peW pgW (swapsSole_no h1) (swapped_no h2) (each1 h3)) ?_
  refine ha ι S ρ σ H _ rh re (AftR.st h re fun v S1 _ ι1 H1 w1 rh1 le1 r1 h1 => ?_)
  refine ht ι1 S1 ρ σ H1 v w1 _ rh1 (re.mono le1) r1 (AftR.st (Ra := REg X P) h1 (re.mono le1) fun ρ1 S2 _ ι2 H2 σ2 rh2 le2 re2 h2 => ?_)
  exact h2 ι2 H2 σ2 rh2 Le.refl re2
/-- (a, b, ..) = (x, y, ..), stored in order -/
theorem snst_asgT {t : Tg} {ts vs : List Expr} {k k2 : Nat} {p p2 : Pos} (ht : SndG P W X n n t (.Tuple ts k p)) (ha : SndE P W X n a (.Tuple vs k2 p2)) (h2 : swSt X.env.scope ts vs = some none) : SndSt P W X (n + 1) (.asg t a) (.Assign [.Tuple ts k p] (.Tuple vs k2 p2) pos) := fun ι S ρ σ H D rh re h => by
  intro pins s I
  refine (ps_asg peW pgW (swapsSole_no rfl) (swSt_ok I.ok.kind h2) rfl).run pins s σ H D I ?_
  refine ha ι S ρ σ H _ rh re (AftR.st h re fun v S1 _ ι1 H1 w1 rh1 le1 r1 h1 => ?_)
  refine ht ι1 S1 ρ σ H1 v w1 _ rh1 (re.mono le1) r1 (AftR.st (Ra := REg X P) h1 (re.mono le1) fun ρ1 S2 _ ι2 H2 σ2 rh2 le2 re2 h2 => ?_)
  exact h2 ι2 H2 σ2 rh2 Le.refl re2
theorem evS_evL {f : E → Hs → Rs AV} : ∀ {es : List E} {S : Hs}, es.all (fun e => (isStar e).isNone) = true → evS f es S = evL f es S
  | [], _, _ => rfl
  | e :: es, S, h => by
    rw [List.all_cons, Bool.and_eq_true] at h
    unfold evS evL
    cases hs : isStar e with
    | some z => rw [hs] at h; exact absurd (show false = true from h.1) Bool.false_ne_true
    | none =>
      dsimp only
      congr 1
      funext v S1
      rw [evS_evL h.2]
theorem evL_len {f : E → Hs → Rs AV} : ∀ {es : List E} {S : Hs} {vs : List AV} {S' : Hs}, evL f es S = .ok vs S' → vs.length = es.length
  | [], _, _, _, e => by cases e; rfl
  | e :: es, S, vs, S', h => by
    unfold evL at h
    cases h1 : f e S with
    | bad => rw [h1] at h; cases h
    | exc z S1 => rw [h1] at h; cases h
    | ok v S1 =>
      rw [h1] at h
      have h' : (evL f es S1).bind (fun vs S2 => .ok (v :: vs) S2) = .ok vs S' := h
      cases h2 : evL f es S1 with
      | bad => rw [h2] at h'; cases h'
      | exc z S2 => rw [h2] at h'; cases h'
      | ok us S2 => rw [h2] at h'; cases h'; rw [List.length_cons, List.length_cons, evL_len h2]
theorem st_bind {α β : Type} (r : Rs α) (f : α → Hs → Rs β) (ρ : Ev) (k : β → Hs → Re) : (r.bind f).st ρ k = r.st ρ fun a S => (f a S).st ρ k := by cases r <;> rfl
/-- a, b = x, y: two names of the def's own -/
theorem snst_par2 (g : Good P d W X) {i j : Nat} {x y : Str} {px py p p2 : Pos} {k k2 : Nat} (hi : X.N[i]? = some x) (hj : X.N[j]? = some y) (hij : i ≠ j) (hx : X.env.scope.names.lookup x = some .local) (hy : X.env.scope.names.lookup y = some .local)
    (ha : All2 (SndE P W X (n + 1)) [a, b] [xa, xb]) (hs : [xa, xb].all (fun x => !isStarX x) = true) (h2 : swSt X.env.scope [.Name x px, .Name y py] [xa, xb] = some (some [x, y])) (ns : [a, b].all (fun e => (isStar e).isNone) = true) :
    SndSt P W X (n + 3) (.asg (.tp [.nm i, .nm j]) (.tup [a, b])) (.Assign [.Tuple [.Name x px, .Name y py] k p] (.Tuple [xa, xb] k2 p2) pos) := fun ι S ρ σ H D rh re h => by
  intro pins s I
  refine (ps_par g.calm g.nd hi hj hij hx hy paW (swSt_ok I.ok.kind h2) (swapsSole_no rfl)).run pins s σ H D I ?_
  have h' : AftR P W X D ι S H (((evS (fun e S => ev P (n + 1) e ρ S) [a, b] S).bind fun vs S1 => if okLen vs.length then Rs.ok (.tup vs) S1 else .bad).st ρ fun v S1 => (asg P.G (fun e ρ S => ev P (n + 2) e ρ S) (n + 2) (.tp [.nm i, .nm j]) v ρ S1).st ρ fun ρ1 S2 => .fl (.nx ρ1) S2) := h
  rw [st_bind, evS_evL ns] at h'
  refine snd_args ha hs ι S H _ rh re (AftR.st (Ra := RVsX X P) h' re fun vs S1 e1 ι1 H1 ws rh1 le1 r1 h1 => ?_)
  have hl := evL_len e1
  split at h1
  · match vs, hl, r1 with
    | [v1, v2], _, .cons q1 (.cons q2 .nil) =>
      refine ⟨_, _, rfl, ?_⟩
      have re1 := re.mono le1
      have h3 : AftR P W X D ι1 S1 H1 ((((if i < ρ.length then Rs.ok (ρ.set i (some v1)) S1 else .bad).nox.bind fun ρ1 S2 => ((if j < ρ1.length then Rs.ok (ρ1.set j (some v2)) S2 else .bad).nox.bind fun ρ2 S3 => Rs.ok ρ2 S3))).st ρ fun ρ1 S2 => .fl (.nx ρ1) S2) := h1
      split at h3
      · have h4 : AftR P W X D ι1 S1 H1 (((if j < (ρ.set i (some v1)).length then Rs.ok ((ρ.set i (some v1)).set j (some v2)) S1 else .bad).nox.bind fun ρ2 S3 => Rs.ok ρ2 S3).st ρ fun ρ1 S2 => .fl (.nx ρ1) S2) := h3
        split at h4
        · exact h4 ι1 H1 _ rh1 Le.refl ((re1.set i q1).set j q2)
        · exact h4.elim
      · exact h3.elim
  · exact h1.elim
/-- a, b, c = x, y, z -/
theorem snst_par3 (g : Good P d W X) {i j l : Nat} {x y z : Str} {px py pz p p2 : Pos} {k k2 : Nat} (hi : X.N[i]? = some x) (hj : X.N[j]? = some y) (hl : X.N[l]? = some z) (hij : i ≠ j) (hil : i ≠ l) (hjl : j ≠ l) (hx : X.env.scope.names.lookup x = some .local) (hy : X.env.scope.names.lookup y = some .local) (hz : X.env.scope.names.lookup z = some .local)
    (ha : All2 (SndE P W X (n + 1)) [a, b, c] [xa, xb, xc]) (hs : [xa, xb, xc].all (fun x => !isStarX x) = true) (h2 : swSt X.env.scope [.Name x px, .Name y py, .Name z pz] [xa, xb, xc] = some (some [x, y, z])) (ns : [a, b, c].all (fun e => (isStar e).isNone) = true) :
    SndSt P W X (n + 3) (.asg (.tp [.nm i, .nm j, .nm l]) (.tup [a, b, c])) (.Assign [.Tuple [.Name x px, .Name y py, .Name z pz] k p] (.Tuple [xa, xb, xc] k2 p2) pos) := fun ι S ρ σ H D rh re h => by
  intro pins s I
  refine (ps_par3 g.calm g.nd hi hj hl hij hil hjl hx hy hz paW (swSt_ok I.ok.kind h2) (swapsSole_no rfl)).run pins s σ H D I ?_
  have h' : AftR P W X D ι S H (((evS (fun e S => ev P (n + 1) e ρ S) [a, b, c] S).bind fun vs S1 => if okLen vs.length then Rs.ok (.tup vs) S1 else .bad).st ρ fun v S1 => (asg P.G (fun e ρ S => ev P (n + 2) e ρ S) (n + 2) (.tp [.nm i, .nm j, .nm l]) v ρ S1).st ρ fun ρ1 S2 => .fl (.nx ρ1) S2) := h
  rw [st_bind, evS_evL ns] at h'
  refine snd_args ha hs ι S H _ rh re (AftR.st (Ra := RVsX X P) h' re fun vs S1 e1 ι1 H1 ws rh1 le1 r1 h1 => ?_)
  have hl := evL_len e1
  split at h1
  · match vs, hl, r1 with
    | [v1, v2, v3], _, .cons q1 (.cons q2 (.cons q3 .nil)) =>
      refine ⟨_, _, _, rfl, ?_⟩
      have re1 := re.mono le1
      have h3 : AftR P W X D ι1 S1 H1 ((((if i < ρ.length then Rs.ok (ρ.set i (some v1)) S1 else .bad).nox.bind fun ρ1 S2 => ((if j < ρ1.length then Rs.ok (ρ1.set j (some v2)) S2 else .bad).nox.bind fun ρ2 S3 => ((if l < ρ2.length then Rs.ok (ρ2.set l (some v3)) S3 else .bad).nox.bind fun ρ3 S4 => Rs.ok ρ3 S4)))).st ρ fun ρ1 S2 => .fl (.nx ρ1) S2) := h1
      split at h3
      · have h4 : AftR P W X D ι1 S1 H1 (((if j < (ρ.set i (some v1)).length then Rs.ok ((ρ.set i (some v1)).set j (some v2)) S1 else .bad).nox.bind fun ρ2 S3 => ((if l < ρ2.length then Rs.ok (ρ2.set l (some v3)) S3 else .bad).nox.bind fun ρ3 S4 => Rs.ok ρ3 S4)).st ρ fun ρ1 S2 => .fl (.nx ρ1) S2) := h3
        split at h4
        · have h5 : AftR P W X D ι1 S1 H1 (((if l < ((ρ.set i (some v1)).set j (some v2)).length then Rs.ok (((ρ.set i (some v1)).set j (some v2)).set l (some v3)) S1 else .bad).nox.bind fun ρ3 S4 => Rs.ok ρ3 S4).st ρ fun ρ1 S2 => .fl (.nx ρ1) S2) := h4
          split at h5
          · exact h5 ι1 H1 _ rh1 Le.refl (((re1.set i q1).set j q2).set l q3)
          · exact h5.elim
        · exact h4.elim
      · exact h3.elim
  · exact h1.elim
end
end Ab

namespace Ab
open PySem L2
section
variable {P : Pe} {d n m : Nat} {W : WX} {X : Cx} {pos : Pos} {a b c : E} {xa xb xc : Expr}
/-- nothing is wished for -/
def W0 : WX := fun _ _ _ _ => False
abbrev blkX (X : Cx) (scope : Scope) (s : Shared) (H : Hp) (C : Addr) (cl : List (Str × Addr)) (fp : List Addr) : Cx := X.blk s H scope (compEnvC scope cl C X.env) fp
theorem Good.blk (g : Good P d W X) (scope : Scope) (s : Shared) (H : Hp) (C : Addr) (cl : List (Str × Addr)) (fp : List Addr) : Good P d W0 (blkX X scope s H C cl fp) :=
  ⟨⟨g.mf.free, g.mf.fn, g.mf.glo, g.mf.clg, g.mf.fld, g.mf.nnd, g.mf.pln, g.mf.obg, g.mf.isi, g.mf.cst, g.mf.mth, g.mf.mkf, g.mf.xcf⟩, g.calm, g.nd, g.room, fun u s' x => by
    obtain ⟨_, _, _, _, _, _, _, _, _, _, _, _, _, _, _, _, w⟩ := x
    exact w.elim, PassesOwn.never, g.gd⟩
theorem wipe_set {σ : L2.St} {i : Nat} {o : Option V} : ∀ {vs : List Nat}, i ∈ vs → wipe (σ.set i o) vs = wipe σ vs
  | v :: vs, h => by
    unfold wipe
    by_cases c : i ∈ vs
    · rw [wipe_set c]
    · have e : i = v := by
        rcases List.mem_cons.mp h with e | e
        · exact e
        · exact absurd e c
      subst e
      have q : ∀ {ws : List Nat}, i ∉ ws → wipe (σ.set i o) ws = (wipe σ ws).set i o := by
        intro ws
        induction ws with
        | nil => intro _; rfl
        | cons w ws ih =>
          intro hn
          have h1 : i ≠ w := fun e => hn (by simp [e])
          have h2 : i ∉ ws := fun e => hn (List.mem_cons_of_mem _ e)
          unfold wipe
          rw [ih h2, List.set_comm _ _ h1]
      rw [q c, List.set_set]
theorem wipe_wipe {σ : L2.St} : ∀ {vs : List Nat}, wipe (wipe σ vs) vs = wipe σ vs := by
  intro vs
  have q : ∀ (ws : List Nat) (τ : L2.St), (∀ w ∈ ws, w ∈ vs) → wipe (wipe τ ws) vs = wipe τ vs := by
    intro ws
    induction ws with
    | nil => intro _ _; rfl
    | cons w ws ih =>
      intro τ h
      show wipe ((wipe τ ws).set w none) vs = _
      rw [wipe_set (h w (by simp)), ih τ fun x hx => h x (List.mem_cons_of_mem _ hx)]
  exact q vs σ fun _ h => h
theorem RE.none {K : PySem.W.Frag} {G : Gx} {ι : Nat → Addr} {m : Nat} {H : Hp} {ρ : Ev} {σ : L2.St} (r : RE K G ι m H ρ σ) (i : Nat) : RE K G ι m H (ρ.set i none) (σ.set i none) := by
  refine ⟨fun j y e => ?_, by rw [List.length_set, List.length_set]; exact r.len⟩
  by_cases c : j = i
  · subst c
    by_cases hj : j < ρ.length
    · rw [List.getElem?_set_self hj] at e; cases e
    · rw [List.getElem?_eq_none (by rw [List.length_set]; omega)] at e; cases e
  · rw [List.getElem?_set_ne (Ne.symm c)] at e
    obtain ⟨w, h1, h2⟩ := r.at_ j y e
    exact ⟨w, by rw [List.getElem?_set_ne (Ne.symm c)]; exact h1, h2⟩
theorem RE.wipe {K : PySem.W.Frag} {G : Gx} {ι : Nat → Addr} {m : Nat} {H : Hp} {ρ : Ev} {σ : L2.St} (r : RE K G ι m H ρ σ) : ∀ vs : List Nat, RE K G ι m H (wipeA ρ vs) (L2.wipe σ vs)
  | [] => r
  | v :: vs => (RE.wipe r vs).none v
/-- a comprehension's target -/
def SndC (P : Pe) (X : Cx) (own : List Nat) (t : Tg) (x : Expr) : Prop := ∀ (ι : Nat → Addr) (S : Hs) (ρ ρ1 : Ev) (σ : L2.St) (H : Hp) (v : AV) (w : V) (Q : L2.St → Hp → Prop), RH X.K P.G ι S H → RE X.K P.G ι S.n H ρ σ → RV X.K P.G ι S.n H v w → asgC own t v ρ = some ρ1 →
  (∀ σ2, wipe σ2 own = wipe σ own → RE X.K P.G ι S.n H ρ1 σ2 → Q σ2 H) → tWg X x w σ H Q
theorem asgC1_ok {own : List Nat} {i : Nat} {v : AV} {ρ ρ1 : Ev} (e : asgC1 own i v ρ = some ρ1) : i ∈ own ∧ ρ1 = ρ.set i (some v) := by
  unfold asgC1 at e
  split at e
  · rename_i c
    obtain ⟨_, c2⟩ := Bool.and_eq_true_iff.mp c
    cases e
    exact ⟨by simpa using c2, rfl⟩
  · cases e
theorem snc_nm (g : Good P d W X) {own : List Nat} {i : Nat} {x : Str} (hi : X.N[i]? = some x) (hx : Loc X.env.scope x) (hf : X.fn x = true ∨ X.env.scope.names.lookup x = some .local) : SndC P X own (.nm i) (.Name x pos) := fun ι S ρ ρ1 σ H v w Q rh re r e k => by
  obtain ⟨h1, rfl⟩ := asgC1_ok e
  exact tWg.of (pg_name g.nd hi hx hf) (k _ (wipe_set h1) (re.set i r))
/-- names of a tuple target -/
def NmE (X : Cx) (t : Tg) (x : Expr) : Prop := ∃ i y p, t = .nm i ∧ x = .Name y p ∧ X.N[i]? = some y ∧ Loc X.env.scope y ∧ (X.fn y = true ∨ X.env.scope.names.lookup y = some .local)
theorem snc_list (g : Good P d W X) {own : List Nat} : ∀ {ts : List Tg} {xs : List Expr}, All2 (NmE X) ts xs → ∀ (ι : Nat → Addr) (S : Hs) (ρ ρ1 : Ev) (σ : L2.St) (H : Hp) (vs : List AV) (ws : List V) (Q : L2.St → Hp → Prop), RH X.K P.G ι S H → RE X.K P.G ι S.n H ρ σ → RVs X.K P.G ι S.n H vs ws → asgCs own ts vs ρ = some ρ1 →
    (∀ σ2, wipe σ2 own = wipe σ own → RE X.K P.G ι S.n H ρ1 σ2 → Q σ2 H) → ws.length = xs.length ∧ tWgs X xs ws σ H Q
  | _, _, .nil => fun ι S ρ ρ1 σ H vs ws Q rh re r e k => by
    cases r with
    | nil => cases e; exact ⟨rfl, tWgs.of pgs_nil ⟨rfl, k σ rfl re⟩⟩
    | cons _ _ => cases e
  | _, _, .cons ht hr => fun ι S ρ ρ1 σ H vs ws Q rh re r e k => by
    obtain ⟨i, y, p, rfl, rfl, hi, hy, hf⟩ := ht
    cases r with
    | nil => cases e
    | @cons v w vs ws r rr =>
      have e' : (match asgC1 own i v ρ with | some ρ1 => asgCs own _ vs ρ1 | none => none) = some ρ1 := e
      cases h1 : asgC1 own i v ρ with
      | none => rw [h1] at e'; cases e'
      | some ρ2 =>
        rw [h1] at e'
        obtain ⟨h2, rfl⟩ := asgC1_ok h1
        have hw := wipe_set (σ := σ) (o := some w) h2
        obtain ⟨l, q⟩ := snc_list g hr ι S _ ρ1 (σ.set i (some w)) H vs ws Q rh (re.set i r) rr e' fun σ2 h3 h4 => k σ2 (h3.trans hw) h4
        refine ⟨by rw [List.length_cons, List.length_cons, l], tWgs.of (pgs_cons (pg_name g.nd hi hy hf) pgsW rfl) ⟨_, _, rfl, q⟩⟩
theorem snc_tp (g : Good P d W X) {own : List Nat} {ts : List Tg} {xs : List Expr} {k : Nat} (ht : All2 (NmE X) ts xs) : SndC P X own (.tp ts) (.Tuple xs k pos) := fun ι S ρ ρ1 σ H v w Q rh re r e k => by
  have hs : xs.all (fun x => !isStarX x) = true := by
    clear e k r
    induction ht with
    | nil => rfl
    | cons h _ ih =>
      obtain ⟨i, y, p, rfl, rfl, _⟩ := h
      rw [List.all_cons, ih]; rfl
  cases r with
  | @tup vs q ws sq rs =>
    obtain ⟨l1, l2⟩ := assignEach_len (env := X.env) xs hs
    obtain ⟨l, z⟩ := snc_list g ht ι S ρ ρ1 σ H vs ws Q rh re rs e k
    exact tWg.of (pg_tup g.calm pgsW l1 l2) ⟨q, ws, rfl, sq, l, z⟩
  | _ => cases e
/-- tests of a comprehension: none, or one -/
def SndTs (P : Pe) (W : WX) (X : Cx) (n : Nat) : List E → List Expr → Prop
  | [], [] => True
  | [e], [x] => SndT P W X n e x
  | _, _ => False
def tWts (X : Cx) (ifs : List Expr) : TT := fun σ H Q => ∀ (pins : List (Addr × Obj)) (s : Shared), Inv X pins σ H s →
    wpAny (model X.prog X.w) X.A (forIn ifs true fun c r => if r = true then do let ok ← isTrue c X.env (eval c X.env); pure (ForInStep.yield ok) else pure (ForInStep.yield r)) (TP X pins σ Q) X.xe s
theorem snts {es : List E} {xs : List Expr} (h : SndTs P W X n es xs) (ι : Nat → Addr) (S : Hs) (ρ : Ev) (σ : L2.St) (H : Hp) (Q : Bool → Hp → Prop) (rh : RH X.K P.G ι S H) (re : RE X.K P.G ι S.n H ρ σ)
    (h' : Aft X.K P.G RB Q (fun c d H' => W c d σ H') ι S H (evT (fun e S => ev P n e ρ S) es S)) : tWts X xs σ H Q := by
  match es, xs, h with
  | [], [], _ => exact fun pins s I => pts_nil.run pins s σ H Q I (Aft.now (R := RB) h' rh rfl)
  | [e], [x], h =>
    refine fun pins s I => (pts_one ptW).run pins s σ H Q I ?_
    have e1 : evT (fun e S => ev P n e ρ S) [e] S = ((ev P n e ρ S).bind tstA).bind fun b S2 => if b then .ok true S2 else .ok false S2 := by
      show ((ev P n e ρ S).bind fun v S1 => (tstA v S1).bind fun b S2 => if b then .ok true S2 else .ok false S2) = _
      rw [bind_assoc]
    rw [e1] at h'
    refine h ι S ρ σ H _ rh re (Aft.bind (Ra := RB) h' fun b S1 _ ι1 H1 b' rh1 le1 eb h1 => ?_)
    subst eb
    cases b with
    | true => exact Aft.now (R := RB) h1 rh1 rfl
    | false => exact Aft.now (R := RB) h1 rh1 rfl
section
variable (X) (scope : Scope)
def tWgB (tg : Expr) : TG := fun v σ H Q => ∀ s0 H0 C cl fp, tWg (blkX X scope s0 H0 C cl fp) tg v σ H Q
def tWtB (ifs : List Expr) : TT := fun σ H Q => ∀ s0 H0 C cl fp, tWts (blkX X scope s0 H0 C cl fp) ifs σ H Q
def tWB (e : Expr) : TE := fun σ H Q => ∀ s0 H0 C cl fp, tW (blkX X scope s0 H0 C cl fp) e σ H Q
end
theorem ne_of_le {K : PySem.W.Frag} {ι1 ι : Nat → Addr} {m1 m : Nat} {H1 H : Hp} (le : Le K ι1 m1 H1 ι m H) {p : Addr} {u : HO} (hp : H1 p = some u) (hn : ∀ k, k < m1 → ι1 k ≠ p) : ∀ k, k < m → ι k ≠ p := fun k hk e => by
  by_cases c : k < m1
  · rw [le.ag k c] at e; exact hn k c e
  · have q := le.nw k (Nat.le_of_not_lt c) hk
    rw [e, hp] at q; cases q
/-- the heap of a comprehension: the new list at D is not numbered yet -/
theorem lc_read (g : Good P d W X) {elt : E} {xe : Expr} {t : Tg} {tg : Expr} {s : Src} {iter : Expr} {ifs : List E} {xifs : List Expr} {scope : Scope} {own : List Nat} (hi : SndI P W X n s tg iter)
    (ht : ∀ s0 H0 C cl fp, SndC P (blkX X scope s0 H0 C cl fp) own t tg) (hifs : ∀ s0 H0 C cl fp, SndTs P W0 (blkX X scope s0 H0 C cl fp) n ifs xifs) (he : ∀ s0 H0 C cl fp, SndE P W0 (blkX X scope s0 H0 C cl fp) n elt xe)
    (ι : Nat → Addr) (S : Hs) (ρ : Ev) (σ : L2.St) (H : Hp) (Q : VK) (rh : RH X.K P.G ι S H) (re : RE X.K P.G ι S.n H ρ σ) (h : Aft X.K P.G (RVg X P.G) Q (fun c d H' => W c d σ H') ι S H (ev P (n + 1) (.lc elt t s ifs own) ρ S)) :
    tLc (tWI X tg iter) (tWgB X scope tg) (tWtB X scope xifs) (tWB X scope xe) own σ H Q := by
  refine hi ι S ρ σ H _ rh re (Aft.bind (Ra := RItg X P) h fun it S1 _ ι1 H1 J rh1 le1 rj h1 => ?_)
  intro D hD
  generalize hF : (fun (v : AV) (acc : List AV) (S : Hs) => (match asgC own t v (wipeA ρ own) with
          | some ρ1 => ((evT (fun e S => ev P n e ρ1 S) ifs S).bind fun b S3 => if b then (ev P n elt ρ1 S3).bind fun x S4 => if acc.length < sizeLine then Rs.ok (acc ++ [x]) S4 else .bad else .ok acc S3).nox
          | none => .bad)) = F at h1
  have re1 := re.mono le1
  refine ⟨fun i k H' => ∃ ι' S' acc us, RH X.K P.G ι' S' H' ∧ Le X.K ι1 S1.n H1 ι' S'.n H' ∧ (∀ j, j < S'.n → ι' j ≠ D) ∧ H' D = some (.lst us) ∧ RVs X.K P.G ι' S'.n H' acc us ∧ Aft X.K P.G (RVg X P.G) Q (fun c d H' => W c d σ H') ι1 S1 H1 ((loopI it F k i acc S').bind fun acc S2 => alloc S2 (.lst acc)),
    ⟨turns, ι1, S1, [], [], rh1.off hD, Le.new hD, fun j hj => rh1.ne hD hj, upd_same, .nil, h1⟩, ?_⟩
  rintro i k H' ⟨ι', S', acc, us, rh', le', nD, eD, ra, h'⟩
  cases k with
  | zero => exact h'.elim
  | succ k =>
    unfold loopI at h'
    obtain ⟨q1, q2⟩ := rj ι' S' H' i rh' le'.w
    cases e : it.at i S' with
    | none => rw [e] at h'; exact h'.elim
    | some o =>
      cases o with
      | none =>
        rw [e] at h'
        refine .inl ⟨q1 e, ?_⟩
        have h2 : Aft X.K P.G (RVg X P.G) Q (fun c d H' => W c d σ H') ι1 S1 H1 (alloc S' (.lst acc)) := h'
        have rv := RV.ref (K := X.K) (G := P.G) (ι := ext ι' S'.n D) (m := (S'.push (.lst acc)).n) (H := H') (n := S'.n) (by rw [Hs.push_n]; omega)
        rw [ext_new] at rv
        exact h2 (ext ι' S'.n D) H' (.ref D) (rh'.adopt eD nD (.lst ra)) (le'.adopt hD) rv
      | some v =>
        rw [e] at h'
        obtain ⟨go, yl⟩ := q2 v e
        obtain ⟨NX, hNX⟩ : ∃ NX : Hp → Prop, NX = fun H2 => ∃ ι' S' acc us, RH X.K P.G ι' S' H2 ∧ Le X.K ι1 S1.n H1 ι' S'.n H2 ∧ (∀ j, j < S'.n → ι' j ≠ D) ∧ H2 D = some (.lst us) ∧ RVs X.K P.G ι' S'.n H2 acc us ∧ Aft X.K P.G (RVg X P.G) Q (fun c d H' => W c d σ H') ι1 S1 H1 ((loopI it F k (i + 1) acc S').bind fun acc S2 => alloc S2 (.lst acc)) := ⟨_, rfl⟩
        refine .inr ⟨go, NX, fun H2 z => ⟨k, Nat.lt_succ_self _, by rw [hNX] at z; exact z⟩, fun x H2 y => ?_⟩
        obtain ⟨rh2, le2, rv2⟩ := yl x H2 y
        have le02 := le'.trans le2
        have eD2 : H2 D = some (.lst us) := le2.fr D _ eD nD
        have nD2 := ne_of_le le2 eD nD
        have rew := RE.wipe (re1.mono le02) own
        have h2 : Aft X.K P.G (RVg X P.G) Q (fun c d H' => W c d σ H') ι1 S1 H1 (((F v acc S').bind fun b' S' => loopI it F k (i + 1) b' S').bind fun acc S2 => alloc S2 (.lst acc)) := h'
        rw [bind_assoc, ← congrFun (congrFun (congrFun hF v) acc) S'] at h2
        intro s0 H0 C cl fp
        cases ea : asgC own t v (wipeA ρ own) with
        | none => simp only [ea] at h2; exact h2.elim
        | some ρ1 =>
          simp only [ea] at h2
          have hw1 : wipe (wipe σ own) own = wipe σ own := wipe_wipe
          refine ht s0 H0 C cl fp ι' S' (wipeA ρ own) ρ1 (wipe σ own) H2 v x (fun σ2 H2 => wipe σ2 own = wipe σ own ∧ tWtB X scope xifs σ2 H2 fun b H3 =>
    if b = true then tWB X scope xe σ2 H3 fun y H4 => ∃ acc, H4 D = some (.lst acc) ∧ acc.length < sizeLine ∧ NX (upd H4 D (.lst (acc ++ [y]))) else NX H3) rh2 rew rv2 ea fun σ2 hw2 re2 => ⟨hw2.trans hw1, fun s0 H0 C cl fp => ?_⟩
          refine snts (hifs s0 H0 C cl fp) ι' S' ρ1 σ2 H2 _ rh2 re2 ?_
          cases et : evT (fun e S => ev P n e ρ1 S) ifs S' with
          | bad => rw [et] at h2; exact h2.elim
          | exc _ _ => rw [et] at h2; exact h2.elim
          | ok b S3 =>
            rw [et] at h2
            intro ι3 H3 b' rh3 le3 eb
            cases eb
            cases b with
            | false =>
              rw [if_neg Bool.false_ne_true]
              rw [hNX]
              exact ⟨ι3, S3, acc, us, rh3, le02.trans le3, ne_of_le le3 eD2 nD2, le3.fr D _ eD2 nD2, (ra.mono le2).mono le3, h2⟩
            | true =>
              rw [if_pos rfl]
              intro s0 H0 C cl fp
              refine he s0 H0 C cl fp ι3 S3 ρ1 σ2 H3 _ rh3 (re2.mono le3) ?_
              have h3 : Aft X.K P.G (RVg X P.G) Q (fun c d H' => W c d σ H') ι1 S1 H1 (((ev P n elt ρ1 S3).bind fun x S4 => if acc.length < sizeLine then Rs.ok (acc ++ [x]) S4 else .bad).nox.bind fun b' S' => (loopI it _ k (i + 1) b' S').bind fun acc S2 => alloc S2 (.lst acc)) := h2
              cases ee : ev P n elt ρ1 S3 with
              | bad => rw [ee] at h3; exact h3.elim
              | exc _ _ => rw [ee] at h3; exact h3.elim
              | ok y S4 =>
                rw [ee] at h3
                intro ι4 H4 w rh4 le4 rw4
                have h4 : Aft X.K P.G (RVg X P.G) Q (fun c d H' => W c d σ H') ι1 S1 H1 ((if acc.length < sizeLine then Rs.ok (acc ++ [y]) S4 else .bad).nox.bind fun b' S' => (loopI it _ k (i + 1) b' S').bind fun acc S2 => alloc S2 (.lst acc)) := h3
                by_cases cl : acc.length < sizeLine
                · rw [if_pos cl] at h4
                  have nD3 := ne_of_le le3 eD2 nD2
                  have eD3 := le3.fr D _ eD2 nD2
                  have nD4 := ne_of_le le4 eD3 nD3
                  have eD4 := le4.fr D _ eD3 nD3
                  have ra4 := ((ra.mono le2).mono le3).mono le4
                  have lw : Lw X.K ι4 S4.n H4 ι4 S4.n (upd H4 D (.lst (us ++ [w]))) := ⟨Nat.le_refl _, fun _ _ => rfl, sqT_upd_old eD4 trivial⟩
                  refine ⟨us, eD4, ra4.length ▸ cl, ?_⟩
                  rw [hNX]
                  exact ⟨ι4, S4, acc ++ [y], us ++ [w], rh4.setD eD4 trivial nD4, ((le02.trans le3).trans le4).setD hD eD4 trivial, nD4, upd_same, (ra4.append (.cons rw4 .nil)).monoW lw, h4⟩
                · rw [if_neg cl] at h4; exact h4.elim
theorem snd_lc (g : Good P d W X) {elt : E} {xe : Expr} {t : Tg} {tg : Expr} {s : Src} {iter : Expr} {ifs : List E} {xifs : List Expr} {scope : Scope} {own : List (Str × Nat)} (hi : SndI P W X n s tg iter) (ok : BlkOk X.N X.env.scope scope own)
    (ht : ∀ s0 H0 C cl fp, SndC P (blkX X scope s0 H0 C cl fp) (own.map (·.2)) t tg) (hifs : ∀ s0 H0 C cl fp, SndTs P W0 (blkX X scope s0 H0 C cl fp) n ifs xifs) (he : ∀ s0 H0 C cl fp, SndE P W0 (blkX X scope s0 H0 C cl fp) n elt xe)
    (hf : ∀ x, foldedSetIterable iter X.env x = pure x) : SndE P W X (n + 1) (.lc elt t s ifs (own.map (·.2))) (.ListComp xe [⟨tg, iter, xifs, 0⟩] scope pos) := fun ι S ρ σ H Q rh re h =>
  tW.of (pe_lc (own := own) (g := tWgB X scope tg) (tt := tWtB X scope xifs) (te := tWB X scope xe) g.calm g.nd piW ok (fun s0 H0 C cl fp => ⟨fun pins s σ H v u Q I r z => z s0 H0 C cl fp pins s u I r⟩) (fun s0 H0 C cl fp => ⟨fun pins s σ H Q I z => z s0 H0 C cl fp pins s I⟩) (fun s0 H0 C cl fp => ⟨fun pins s σ H Q I z => z s0 H0 C cl fp pins s I⟩) hf)
    (lc_read g hi ht hifs he ι S ρ σ H Q rh re h)
/-- y = [..], stored by the comprehension -/
theorem snst_setLc (g : Good P d W X) {elt : E} {xe : Expr} {t : Tg} {tg : Expr} {s : Src} {iter : Expr} {ifs : List E} {xifs : List Expr} {scope : Scope} {own : List (Str × Nat)} {y : Str} {py spos : Pos} {i : Nat} (hi : SndI P W X n s tg iter) (ok : BlkOk X.N X.env.scope scope own)
    (ht : ∀ s0 H0 C cl fp, SndC P (blkX X scope s0 H0 C cl fp) (own.map (·.2)) t tg) (hifs : ∀ s0 H0 C cl fp, SndTs P W0 (blkX X scope s0 H0 C cl fp) n ifs xifs) (he : ∀ s0 H0 C cl fp, SndE P W0 (blkX X scope s0 H0 C cl fp) n elt xe)
    (hf : ∀ x, foldedSetIterable iter X.env x = pure x) (hy : X.N[i]? = some y) (hyl : X.env.scope.names.lookup y = some .local) (hsw : X.env.scope.kind = .function → swapsWith (.ListComp xe [⟨tg, iter, xifs, 0⟩] scope pos) (some (.Name y py)) spos.line X.env = pure true) :
    SndSt P W X (n + 2) (.asg (.nm i) (.lc elt t s ifs (own.map (·.2)))) (.Assign [.Name y py] (.ListComp xe [⟨tg, iter, xifs, 0⟩] scope pos) spos) := fun ι S ρ σ H D rh re h => by
  intro pins s0 I
  refine (ps_setLc (own := own) (g := tWgB X scope tg) (tt := tWtB X scope xifs) (te := tWB X scope xe) g.calm g.nd hy hyl (hsw I.ok.kind) piW ok (fun s0 H0 C cl fp => ⟨fun pins s σ H v u Q I r z => z s0 H0 C cl fp pins s u I r⟩) (fun s0 H0 C cl fp => ⟨fun pins s σ H Q I z => z s0 H0 C cl fp pins s I⟩) (fun s0 H0 C cl fp => ⟨fun pins s σ H Q I z => z s0 H0 C cl fp pins s I⟩) hf).run pins s0 σ H D I ?_
  refine lc_read g hi ht hifs he ι S ρ σ H _ rh re (AftR.st (Ra := RVg X P.G) h re fun v S1 _ ι1 H1 w rh1 le1 r1 h1 => ?_)
  have h2 : AftR P W X D ι1 S1 H1 ((if i < ρ.length then Rs.ok (ρ.set i (some v)) S1 else .bad).st ρ fun ρ1 S2 => .fl (.nx ρ1) S2) := h1
  split at h2
  · exact h2 ι1 H1 _ rh1 Le.refl ((re.mono le1).set i r1)
  · exact h2.elim
end
end Ab

namespace Ab
open PySem L2
section
variable {P : Pe} {d n m : Nat} {W : WX} {X : Cx} {pos : Pos} {a b c : E} {xa xb xc : Expr}
theorem run_mkS {k : Nat} {C f : Addr} {fd : FuncData} {ps : List Str} {sp : Sp} {pins : List (Addr × Obj)} {σ : L2.St} {H : Hp} {s : Shared} {Q : VK} {us : List Value} {vs : List V} (M : Mk X.K C f)
    (F : FnG X.prog X.w X.K X.mg X.base (CX X.prog X.w) k f fd ps sp) (room : Room (k + 1) X.A) (gd : X.A.guards = some []) (bs : Binds X.K fd ps []) (tk : Takes X W) (I : Inv X pins σ H s) (r : Vals vs us)
    (h : ∀ x dx, H x = none → H dx = none → dx ≠ x → sp (.ref x :: vs) (upd (upd H dx (.own x)) x (.ins C dx [])) (fun v H2 => v = .non ∧ Q (.ref x) H2) fun c d H' => W c d σ H') :
    wpAny (model X.prog X.w) X.A (call (.ref C) us) (EP X pins σ Q) X.xe s := by
  generalize hz : s.heap.objs.size = z
  have f1 : H z = none := I.hok.fresh (Nat.le_of_eq hz)
  have f2 : H (z + 1) = none := I.hok.fresh (Nat.le_succ_of_le (Nat.le_of_eq hz))
  have goal := h (z + 1) z f2 f1 (Nat.ne_of_lt (Nat.lt_succ_self z))
  have J := Inv.made (C := C) I
  rw [hz] at J
  have rr : Vals (V.ref (z + 1) :: vs) (Value.ref (z + 1) :: us) := .cons rfl r
  have len : (Value.ref (z + 1) :: us).length = ps.length := rr.length.symm.trans (F.len _ _ _ _ goal)
  have bd := bs _ (Value.ref (z + 1) :: us) J.kIn (by rw [List.append_nil]; exact len)
  rw [List.append_nil] at bd
  have run := F.run _ X.stack _ _ ⟨Value.ref (z + 1) :: us, []⟩ (Value.ref (z + 1) :: us) _ _ _ (room.make C us []) (make_guards.trans gd) (J.env0.make C us []) bd rr goal
  subst hz
  refine wpAny_call (make_map (f := f) I.kIn M.makes M.init (beq_iff_eq.mp M.fn) (codeAny_mono run fun res s' t => ?_))
  match res, t with
  | .error e, t => exact tk e s' (XE.of_call J (fun _ _ _ y => y) t)
  | .ok (.ret u), t =>
    obtain ⟨v, H', J3, rv, ev, q3⟩ := J.after t
    cases ev
    exact ⟨rv, ⟨V.ref (s.heap.objs.size + 1), H', J3, rfl, q3⟩⟩
  | .ok .next, t => exact t.elim
  | .ok .brk, t => exact t.elim
  | .ok .cont, t => exact t.elim
theorem snd_make (g : Good P d W X) {k : Nat} {cl : Cl} {es : List E} {xs : List Expr} {p : Pos} (hk : P.G.cls[k]? = some cl) {i : Nat} (hi : cl.ini = some i) (hkw : kwOf P.G i = []) (hg : Gl X cl.name) (h1 : (cl.name == ("__debug__" : Str)) = false) (ha : All2 (SndE P W X n) es xs) (hs : xs.all (fun x => !isStarX x) = true) :
    SndE P W X (n + 1) (.make k es []) (.Call (.Name cl.name p) xs [] pos) := fun ι S ρ σ H Q rh re h => by
  have h0 : Aft X.K P.G (RVg X P.G) Q (fun c d H' => W c d σ H') ι S H ((evL (fun e S => ev P n e ρ S) es S).bind fun vs S1 => (Rs.ok ([] : List AV) S1).bind fun ws S2 => (match P.G.cls[k]? with
      | some c => (match c.ini with
        | some i => (P.C i (.ref S2.n :: (vs ++ ws)) (S2.push (.ins k []))).bind fun r S3 => if isNon r then .ok (.ref S2.n) S3 else .bad
        | none => .bad)
      | none => .bad)) := h
  rw [hk] at h0
  simp only [hi] at h0
  obtain ⟨fa, hfa, M⟩ := g.mf.mkf k i cl hk hi
  obtain ⟨fd, ps, F, hb0, kp⟩ := g.mf.fn i fa hfa
  rw [hkw] at hb0
  have hb := hb0.pos
  intro pins s I
  refine wpAny_Call_Name_kw (ld_glob I hg (g.mf.clg k cl hk) ?_ h1)
  refine callc I M.kp hs (snd_argc ha hs ι S H (fun vs H1 => ∀ x dx, H1 x = none → H1 dx = none → dx ≠ x → spC X.K P i (.ref x :: vs) (upd (upd H1 dx (.own x)) x (.ins (He.ga X.K cl.name) dx [])) (fun v H2 => v = .non ∧ Q (.ref x) H2) fun c d H' => W c d σ H') rh re
    (Aft.bind (Ra := RVsX X P) h0 fun vs S1 _ ι1 H1 ws rh1 le1 r1 h2 => ?_)) fun us s1 vs H1 I1 r q => ?_
  · intro x dx fx fd' ne
    have lA : Le X.K ι1 S1.n H1 ι1 S1.n (upd H1 dx (.own x)) := Le.new fd'
    have rhA := rh1.off (u := .own x) fd'
    have fx' : upd H1 dx (.own x) x = none := by rw [upd_ne (Ne.symm ne)]; exact fx
    have rhB := rhA.push (o := .ins k []) (u := .ins (He.ga X.K cl.name) dx []) fx' (.ins hk .nil)
    have lB : Le X.K ι1 S1.n (upd H1 dx (.own x)) (ext ι1 S1.n x) (S1.push (.ins k [])).n (upd (upd H1 dx (.own x)) x (.ins (He.ga X.K cl.name) dx [])) := Le.push (S := S1) fx'
    have le := lA.trans lB
    have rx : RV X.K P.G (ext ι1 S1.n x) (S1.push (.ins k [])).n (upd (upd H1 dx (.own x)) x (.ins (He.ga X.K cl.name) dx [])) (.ref S1.n) (.ref x) := by
      have q := RV.ref (K := X.K) (G := P.G) (ι := ext ι1 S1.n x) (m := (S1.push (.ins k [])).n) (H := upd (upd H1 dx (.own x)) x (.ins (He.ga X.K cl.name) dx [])) (n := S1.n) (by rw [Hs.push_n]; omega)
      rw [ext_new] at q
      exact q
    refine ⟨ext ι1 S1.n x, S1.push (.ins k []), .ref S1.n :: vs, rhB, .cons rx (r1.mono le), ?_⟩
    have h3 : Aft X.K P.G (RVg X P.G) Q (fun c d H' => W c d σ H') ι1 S1 H1 ((P.C i (.ref S1.n :: (vs ++ [])) (S1.push (.ins k []))).bind fun r S3 => if isNon r then .ok (.ref S1.n) S3 else .bad) := h2
    rw [List.append_nil] at h3
    have h4 := Aft.shift h3 le
    refine Aft.bind (Ra := RVg X P.G) h4 fun v S3 _ ι3 H3 w3 rh3 le3 r3 h5 => ?_
    cases r3 with
    | non =>
      refine ⟨rfl, ?_⟩
      exact Aft.now (R := RVg X P.G) h5 rh3 (rx.mono le3)
    | _ => exact h5.elim
  · exact run_mkS M F g.room g.gd hb g.tk I1 r q
end
end Ab

namespace Ab
open PySem L2
section
variable {P : Pe} {d n m : Nat} {W : WX} {X : Cx} {pos : Pos} {a b c : E} {xa xb xc : Expr}
theorem run_mkX {k : Nat} {C f : Addr} {fd : FuncData} {ps : List Str} {sp : Sp} {pins : List (Addr × Obj)} {σ : L2.St} {H : Hp} {s : Shared} {Q : VK} {us : List Value} {vs : List V} {B newId initId : String} {bmB : List Value} (T : Xc X.K C B newId initId bmB)
    (iC : PySem.W.findIn X.K (.ref C) "__init__" = some (some (.ref f))) (tI : PySem.W.typeIn X.K (.ref f) = some (.type "function"))
    (F : FnG X.prog X.w X.K X.mg X.base (CX X.prog X.w) k f fd ps sp) (room : Room (k + 1) X.A) (gd : X.A.guards = some []) (bs : Binds X.K fd ps []) (tk : Takes X W) (I : Inv X pins σ H s) (r : Vals vs us) (hz : us.length ≤ 1000)
    (h : ∀ x, H x = none → sp (.ref x :: vs) (upd H x (L2.exo x C none)) (fun v H2 => v = .non ∧ Q (.ref x) H2) fun c d H' => W c d σ H') :
    wpAny (model X.prog X.w) X.A (call (.ref C) us) (EP X pins σ Q) X.xe s := by
  obtain ⟨hp, g, dr, tt, os⟩ := s
  have hsz : hp.objs.size ≤ hp.objs.size + 1 := Nat.le_succ _
  have hn : H (hp.objs.size + 1) = none := I.hok.fresh hsz
  have goal := h (hp.objs.size + 1) hn
  have kk : ∀ b o, hp.get? b = some o → ((hp.push (PySem.W.kdv_tup us)).push (PySem.HandSPX.excO C hp.objs.size)).get? b = some o := fun b o z => Heap.get?_push_of_some _ (Heap.get?_push_of_some _ z)
  have hget : ((hp.push (PySem.W.kdv_tup us)).push (PySem.HandSPX.excO C hp.objs.size)).get? (hp.objs.size + 1) = some (PySem.HandSPX.excO C hp.objs.size) := by heap_get
  have J : Inv X pins σ (upd H (hp.objs.size + 1) (L2.exo (hp.objs.size + 1) C none)) ⟨(hp.push (PySem.W.kdv_tup us)).push (PySem.HandSPX.excO C hp.objs.size), g, dr, tt, os⟩ :=
    Inv.laid (t' := tt) (a := hp.objs.size + 1) I kk hsz (exo_ok hget)
  have rr : Vals (V.ref (hp.objs.size + 1) :: vs) (Value.ref (hp.objs.size + 1) :: us) := .cons rfl r
  have len : (Value.ref (hp.objs.size + 1) :: us).length = ps.length := rr.length.symm.trans (F.len _ _ _ _ goal)
  have bd := bs _ (Value.ref (hp.objs.size + 1) :: us) J.kIn (by rw [List.append_nil]; exact len)
  rw [List.append_nil] at bd
  have run := F.run _ X.stack _ _ ⟨Value.ref (hp.objs.size + 1) :: us, []⟩ (Value.ref (hp.objs.size + 1) :: us) _ _ _ (room.make C us []) (make_guards.trans gd) (J.env0.make C us []) bd rr goal
  obtain ⟨nm, N', qn, bs', bm, hdct, sn, sub, ab, col, dd, k0, k1, k2, k3, k5, hC, hT⟩ := PySem.W.excInit_of I.kIn T.ini
  refine wpAny_call (PySem.HandSPX.call_own T.bs.fb hT hC (PySem.W.looks_findIn I.kIn iC) (fun self => PySem.W.bind_fn I.kIn self tI) (by rw [sizeLine_eq]; omega) (codeAny_mono run fun res s' t => ?_))
  match res, t with
  | .error e, t => exact tk e s' (XE.of_call J (fun _ _ _ y => y) t)
  | .ok (.ret u), t =>
    obtain ⟨v, H', J3, rv, ev, q3⟩ := J.after t
    cases ev
    exact ⟨rv, ⟨V.ref (hp.objs.size + 1), H', J3, rfl, q3⟩⟩
  | .ok .next, t => exact t.elim
  | .ok .brk, t => exact t.elim
  | .ok .cont, t => exact t.elim
theorem snd_xmk (g : Good P d W X) {k : Nat} {cl : Cl} {es : List E} {xs : List Expr} {p : Pos} (hk : P.G.cls[k]? = some cl) {i : Nat} (hi : cl.xi = some i) (hx : cl.xb ≠ 0) (hg : Gl X cl.name) (h1 : (cl.name == ("__debug__" : Str)) = false) (ha : All2 (SndE P W X n) es xs) (hs : xs.all (fun x => !isStarX x) = true) (hl : xs.length ≤ 900) :
    SndE P W X (n + 1) (.xmk k es) (.Call (.Name cl.name p) xs [] pos) := fun ι S ρ σ H Q rh re h => by
  have h0 : Aft X.K P.G (RVg X P.G) Q (fun c d H' => W c d σ H') ι S H ((evL (fun e S => ev P n e ρ S) es S).bind fun vs S1 => (match P.G.cls[k]? with
      | some c => (match c.xi with
        | some i => (P.C i (.ref S1.n :: vs) (S1.push (.exo k none))).bind fun r S3 => if isNon r then .ok (.ref S1.n) S3 else .bad
        | none => .bad)
      | none => .bad)) := h
  rw [hk] at h0
  simp only [hi] at h0
  obtain ⟨⟨B, i1, i2, bm, T⟩, _, hix⟩ := g.mf.xcf k cl hk hx
  obtain ⟨fa, hfa, hkw, iC, tI⟩ := hix i hi
  obtain ⟨fd, ps, F, hb0, kp⟩ := g.mf.fn i fa hfa
  rw [hkw] at hb0
  have hb := hb0.pos
  intro pins s I
  refine wpAny_Call_Name_kw (ld_glob I hg (g.mf.clg k cl hk) ?_ h1)
  refine callc I T.kC hs (snd_argc ha hs ι S H (fun vs H1 => vs.length ≤ 1000 ∧ ∀ x, H1 x = none → spC X.K P i (.ref x :: vs) (upd H1 x (L2.exo x (He.ga X.K cl.name) none)) (fun v H2 => v = .non ∧ Q (.ref x) H2) fun c d H' => W c d σ H') rh re
    (Aft.bind (Ra := RVsX X P) h0 fun vs S1 hev ι1 H1 ws rh1 le1 r1 h2 => ?_)) fun us s1 vs H1 I1 r q => ?_
  · refine ⟨?_, fun x fx => ?_⟩
    · rw [← r1.length, evL_len hev, All2.length ha]
      omega
    have rhB := rh1.push (o := .exo k none) (u := L2.exo x (He.ga X.K cl.name) none) fx (.exo hk (fun _ z => nomatch z) rfl)
    have le : Le X.K ι1 S1.n H1 (ext ι1 S1.n x) (S1.push (.exo k none)).n (upd H1 x (L2.exo x (He.ga X.K cl.name) none)) := Le.push (S := S1) fx
    have rx : RV X.K P.G (ext ι1 S1.n x) (S1.push (.exo k none)).n (upd H1 x (L2.exo x (He.ga X.K cl.name) none)) (.ref S1.n) (.ref x) := by
      have q := RV.ref (K := X.K) (G := P.G) (ι := ext ι1 S1.n x) (m := (S1.push (.exo k none)).n) (H := upd H1 x (L2.exo x (He.ga X.K cl.name) none)) (n := S1.n) (by rw [Hs.push_n]; omega)
      rw [ext_new] at q
      exact q
    refine ⟨ext ι1 S1.n x, S1.push (.exo k none), .ref S1.n :: vs, rhB, .cons rx (r1.mono le), ?_⟩
    have h4 := Aft.shift h2 le
    refine Aft.bind (Ra := RVg X P.G) h4 fun v S3 _ ι3 H3 w3 rh3 le3 r3 h5 => ?_
    cases r3 with
    | non =>
      refine ⟨rfl, ?_⟩
      exact Aft.now (R := RVg X P.G) h5 rh3 (rx.mono le3)
    | _ => exact h5.elim
  · exact run_mkX T iC tI F g.room g.gd hb g.tk I1 r (by rw [List.nil_append, ← Paired.length r]; exact q.1) q.2
end
end Ab

namespace Ab
open PySem L2 PyProof.Rows
section
variable {P : Pe} {d n m : Nat} {W : WX} {X : Cx} {pos : Pos} {a b c : E} {xa xb xc : Expr}
theorem shA_eq {S : Hs} {x : AV} {y : Str} (e : shA S x = some y) : ∃ d, toD 60 S x = some d ∧ (d.showable && !d.hasDict && decide (d.depth ≤ 60) && decide (d.shown.length ≤ sizeLine)) = true ∧ d.shown = y := by
  unfold shA at e
  split at e
  · rename_i d hd
    split at e
    · rename_i c
      exact ⟨d, hd, c, Option.some.inj e⟩
    · cases e
  · cases e
/-- {x} for data -/
theorem fmt_data {pins : List (Addr × Obj)} {σ : L2.St} {H : Hp} {s : Shared} {Q : VK} {w : V} {u : Value} {d : PyData} (gd : X.A.guards = some []) (un : X.A.units + 64 < cLine) (I : Inv X pins σ H s) (dp : Dp X.K H w d) (r : RelV w u) (ns : ∀ y, d ≠ .str y)
    (c : (d.showable && !d.hasDict && decide (d.depth ≤ 60) && decide (d.shown.length ≤ sizeLine)) = true) (q : Q (.str d.shown) H) : wpAny (model X.prog X.w) X.A (formatField u Str.empty) (EP X pins σ Q) X.xe s := by
  simp only [Bool.and_eq_true, decide_eq_true_eq] at c
  obtain ⟨⟨⟨c1, c2⟩, c3⟩, c4⟩ := c
  obtain ⟨as, rd⟩ := Dp.reads I d w u dp r
  have fin : ∀ tk tk2, EP X pins σ Q (.str d.shown tk) { s with toks := tk2 } := fun tk tk2 => ⟨.str d.shown, H, I.tok _, ⟨tk, rfl⟩, q⟩
  cases rd with
  | none => exact wpAny_formatField_none (fin _ _)
  | bool b => exact wpAny_formatField_bool (fin _ _)
  | int i t => exact wpAny_formatField_int (of_decide_eq_true c1) (fin _ _)
  | str x t => exact absurd rfl (ns x)
  | list h1 h2 h3 h4 => exact formatField_of_reads (.list h1 h2 h3 h4) c1 (PyData.noDict_hsm (by simpa using c2)) gd (by omega) (fun _ _ e => e) (fun h' u tk hk => ⟨.str _, H, I.kept hk, ⟨u, rfl⟩, q⟩) c4
  | tuple h1 h2 h3 h4 => exact formatField_of_reads (.tuple h1 h2 h3 h4) c1 (PyData.noDict_hsm (by simpa using c2)) gd (by omega) (fun _ _ e => e) (fun h' u tk hk => ⟨.str _, H, I.kept hk, ⟨u, rfl⟩, q⟩) c4
  | dict h1 h2 h3 h4 h5 => exact formatField_of_reads (.dict h1 h2 h3 h4 h5) c1 (PyData.noDict_hsm (by simpa using c2)) gd (by omega) (fun _ _ e => e) (fun h' u tk hk => ⟨.str _, H, I.kept hk, ⟨u, rfl⟩, q⟩) c4
/-- {x!r} for data -/
theorem fmtR_data {pins : List (Addr × Obj)} {σ : L2.St} {H : Hp} {s : Shared} {Q : VK} {w : V} {u : Value} {d : PyData} (gd : X.A.guards = some []) (un : X.A.units + 64 < cLine) (I : Inv X pins σ H s) (dp : Dp X.K H w d) (r : RelV w u)
    (c : (d.showable && !d.hasDict && decide (d.depth ≤ 60) && decide (d.shown.length ≤ sizeLine)) = true) (q : Q (.str d.shown) H) : wpAny (model X.prog X.w) X.A (pyReprObj u) (fun r s2 => wpAny (model X.prog X.w) X.A (formatField r Str.empty) (EP X pins σ Q) X.xe s2) X.xe s := by
  simp only [Bool.and_eq_true, decide_eq_true_eq] at c
  obtain ⟨⟨⟨c1, c2⟩, c3⟩, c4⟩ := c
  obtain ⟨as, rd⟩ := Dp.reads I d w u dp r
  have fin : ∀ (s2 : Shared) (tk : Tok), Inv X pins σ H s2 → wpAny (model X.prog X.w) X.A (formatField (.str d.shown tk) Str.empty) (EP X pins σ Q) X.xe s2 := fun s2 tk I2 => wpAny_formatField_str ⟨.str _, H, I2, ⟨_, rfl⟩, q⟩ ⟨.str _, H, I2.tok _, ⟨_, rfl⟩, q⟩ c4
  cases rd with
  | none => exact pyReprObj_none (fin _ _ (I.tok _))
  | bool b => exact pyReprObj_bool (fin _ _ (I.tok _))
  | int i t => exact pyReprObj_int (of_decide_eq_true c1) (fin _ _ (I.tok _))
  | str x t => exact pyReprObj_str (fin _ _ (I.tok _)) c4
  | list h1 h2 h3 h4 => exact pyReprObj_of_reads (.list h1 h2 h3 h4) c1 (PyData.noDict_hsm (by simpa using c2)) gd (by omega) (fun _ _ e => e) (fun h' u tk hk => fin _ _ (I.kept hk)) c4
  | tuple h1 h2 h3 h4 => exact pyReprObj_of_reads (.tuple h1 h2 h3 h4) c1 (PyData.noDict_hsm (by simpa using c2)) gd (by omega) (fun _ _ e => e) (fun h' u tk hk => fin _ _ (I.kept hk)) c4
  | dict h1 h2 h3 h4 h5 => exact pyReprObj_of_reads (.dict h1 h2 h3 h4 h5) c1 (PyData.noDict_hsm (by simpa using c2)) gd (by omega) (fun _ _ e => e) (fun h' u tk hk => fin _ _ (I.kept hk)) c4
theorem snd_fmt (g : Good P d W X) (ha : SndE P W X n a xa) : SndE P W X (n + 1) (.fmt false a) (.FormattedValue xa (-1) none pos) := fun ι S ρ σ H Q rh re h => by
  intro pins s I
  refine wpAny_FormattedValue_plain (thn (ha ι S ρ σ H (fun w H1 => (∃ y, w = .str y ∧ y.length ≤ sizeLine ∧ Q (.str y) H1) ∨ ∃ d, Dp X.K H1 w d ∧ (∀ y, d ≠ .str y) ∧ (d.showable && !d.hasDict && decide (d.depth ≤ 60) && decide (d.shown.length ≤ sizeLine)) = true ∧ Q (.str d.shown) H1) rh re
    (Aft.bind h fun v S1 _ ι1 H1 w1 rh1 le1 r1 h1 => ?_) pins s I) fun u s1 hh => ?_)
  · cases e : fmtA false v S1 with
    | none => rw [e] at h1; exact h1.elim
    | some y =>
      rw [e] at h1
      have sh : ∀ v : AV, (∀ z, v ≠ .str z) → fmtA false v S1 = shA S1 v := fun v hv => by
        cases v <;> first | rfl | exact absurd rfl (hv _)
      have other : (∀ z, v ≠ .str z) → ∃ d, Dp X.K H1 w1 d ∧ (∀ y, d ≠ .str y) ∧ (d.showable && !d.hasDict && decide (d.depth ≤ 60) && decide (d.shown.length ≤ sizeLine)) = true ∧ Q (.str d.shown) H1 := fun hv => by
        rw [sh v hv] at e
        obtain ⟨d, hd, hc, rfl⟩ := shA_eq e
        refine ⟨d, toD_rel rh1 60 v w1 d r1 hd, fun y hy => ?_, hc, Aft.now (R := RVg X P.G) h1 rh1 (.str _)⟩
        subst hy
        cases v with
        | str z => exact hv z rfl
        | non => cases hd
        | bl _ => cases hd
        | int _ => cases hd
        | tup xs =>
          unfold toD at hd
          dsimp only at hd
          split at hd <;> cases hd
        | ref r =>
          unfold toD at hd
          dsimp only at hd
          repeat' split at hd
          all_goals cases hd
        | ty _ => cases hd
        | fn _ => cases hd
        | cl _ => cases hd
      cases r1 with
      | str z =>
        have e' : (if okLen z.length then some z else none) = some y := e
        split at e'
        · rename_i hz
          cases e'
          exact .inl ⟨_, rfl, of_decide_eq_true hz, Aft.now (R := RVg X P.G) h1 rh1 (.str _)⟩
        · cases e'
      | _ => exact .inr (other fun z hz => nomatch hz)
  · obtain ⟨w, H1, I1, rw', hh⟩ := hh
    rcases hh with ⟨y, rfl, hz, q⟩ | ⟨dd, dp, ns, hc, q⟩
    · obtain ⟨t, rfl⟩ := rw'
      exact wpAny_formatField_str ⟨.str y, H1, I1, ⟨t, rfl⟩, q⟩ ⟨.str y, H1, I1.tok _, ⟨_, rfl⟩, q⟩ hz
    · have hu := g.room.units
      exact fmt_data g.gd (by omega) I1 dp rw' ns hc q
theorem snd_fmtR (g : Good P d W X) (ha : SndE P W X n a xa) : SndE P W X (n + 1) (.fmt true a) (.FormattedValue xa 114 none pos) := fun ι S ρ σ H Q rh re h => by
  intro pins s I
  refine wpAny_FormattedValue_repr (thn (ha ι S ρ σ H (fun w H1 => ∃ d, Dp X.K H1 w d ∧ (d.showable && !d.hasDict && decide (d.depth ≤ 60) && decide (d.shown.length ≤ sizeLine)) = true ∧ Q (.str d.shown) H1) rh re
    (Aft.bind h fun v S1 _ ι1 H1 w1 rh1 le1 r1 h1 => ?_) pins s I) fun u s1 hh => ?_)
  · cases e : fmtA true v S1 with
    | none => rw [e] at h1; exact h1.elim
    | some y =>
      rw [e] at h1
      have e2 : shA S1 v = some y := by
        rw [← e]
        cases v <;> rfl
      obtain ⟨d, hd, hc, rfl⟩ := shA_eq e2
      exact ⟨d, toD_rel rh1 60 v w1 d r1 hd, hc, Aft.now (R := RVg X P.G) h1 rh1 (.str _)⟩
  · obtain ⟨w, H1, I1, rw', dd, dp, hc, q⟩ := hh
    have hu := g.room.units
    exact fmtR_data g.gd (by omega) I1 dp rw' hc q
theorem pjW : ∀ xs : List Expr, PJ X xs (xs.map (tW X))
  | [] => .nil
  | _ :: xs => .cons peW (pjW xs)
abbrev RS0 : Rl Str Str := fun _ _ _ a b => a = b
theorem jn_ok {ρ : Ev} {σ : L2.St} {Q : Str → Hp → Prop} : ∀ {es : List E} {xs : List Expr}, All2 (SndE P W X n) es xs → ∀ (ι : Nat → Addr) (S : Hs) (acc : Str) (H : Hp), RH X.K P.G ι S H → RE X.K P.G ι S.n H ρ σ →
    Aft X.K P.G RS0 Q (fun c d H' => W c d σ H') ι S H (evJ (fun e S => ev P n e ρ S) es acc S) → tJs (xs.map (tW X)) acc σ H Q
  | _, _, .nil => fun ι S acc H rh re h => Aft.now (R := RS0) h rh rfl
  | _, _, .cons (as := es) (bs := xs) ha t => fun ι S acc H rh re h => by
    refine ha ι S ρ σ H _ rh re (Aft.bind h fun v S1 _ ι1 H1 w1 rh1 le1 r1 h1 => ?_)
    cases r1 with
    | str y =>
      have h2 : Aft X.K P.G RS0 Q (fun c d H' => W c d σ H') ι1 S1 H1 (if okLen (acc ++ y).length then evJ (fun e S => ev P n e ρ S) es (acc ++ y) S1 else .bad) := h1
      split at h2
      · rename_i hz
        exact ⟨y, rfl, of_decide_eq_true hz, jn_ok t ι1 S1 (acc ++ y) H1 rh1 (re.mono le1) h2⟩
      · exact h2.elim
    | _ => exact h1.elim
theorem snd_jn1 (ha : SndE P W X n a xa) : SndE P W X n a (.JoinedStr [xa] pos) := fun ι S ρ σ H Q rh re h => tW.of (pe_joined1 peW) (ha ι S ρ σ H Q rh re h)
theorem snd_jn {es : List E} {x1 x2 : Expr} {xs : List Expr} (ha : All2 (SndE P W X n) es (x1 :: x2 :: xs)) : SndE P W X (n + 1) (.jn es) (.JoinedStr (x1 :: x2 :: xs) pos) := fun ι S ρ σ H Q rh re h => by
  refine tW.of (pe_joined (pjW (x1 :: x2 :: xs))) ?_
  refine jn_ok ha ι S Str.empty H rh re (Aft.bind (Ra := RS0) h fun y S1 _ ι1 H1 y' rh1 le1 ey h1 => ?_)
  subst ey
  exact Aft.now (R := RVg X P.G) h1 rh1 (.str _)
end
end Ab

namespace Ab
open PySem L2
theorem RKs.length {K : PySem.W.Frag} {G : Gx} {ι : Nat → Addr} {m : Nat} {H : Hp} {κ : Type} : ∀ {xs : List (κ × AV)} {vs : List (κ × V)}, RKs K G ι m H xs vs → xs.length = vs.length
  | _, _, .nil => rfl
  | _, _, .cons _ t => by rw [List.length_cons, List.length_cons, RKs.length t]
section
variable {P : Pe} {d n m : Nat} {W : WX} {X : Cx} {pos : Pos} {a b c : E} {xa xb xc : Expr}
theorem dc_read (g : Good P d W X) {ke ve : E} {xk xv : Expr} {t : Tg} {tg : Expr} {s : Src} {iter : Expr} {ifs : List E} {xifs : List Expr} {scope : Scope} {own : List Nat} (hi : SndI P W X n s tg iter)
    (ht : ∀ s0 H0 C cl fp, SndC P (blkX X scope s0 H0 C cl fp) own t tg) (hifs : ∀ s0 H0 C cl fp, SndTs P W0 (blkX X scope s0 H0 C cl fp) n ifs xifs) (hk : ∀ s0 H0 C cl fp, SndE P W0 (blkX X scope s0 H0 C cl fp) n ke xk) (he : ∀ s0 H0 C cl fp, SndE P W0 (blkX X scope s0 H0 C cl fp) n ve xv)
    (ι : Nat → Addr) (S : Hs) (ρ : Ev) (σ : L2.St) (H : Hp) (Q : VK) (rh : RH X.K P.G ι S H) (re : RE X.K P.G ι S.n H ρ σ) (h : Aft X.K P.G (RVg X P.G) Q (fun c d H' => W c d σ H') ι S H (ev P (n + 1) (.dc ke ve t s ifs own) ρ S)) :
    tDc (tWI X tg iter) (tWgB X scope tg) (tWtB X scope xifs) (tWB X scope xk) (tWB X scope xv) own σ H Q := by
  refine hi ι S ρ σ H _ rh re (Aft.bind (Ra := RItg X P) h fun it S1 _ ι1 H1 J rh1 le1 rj h1 => ?_)
  intro D hD
  generalize hF : (fun (v : AV) (acc : List (Key × AV)) (S : Hs) => (match asgC own t v (wipeA ρ own) with
          | some ρ1 => ((evT (fun e S => ev P n e ρ1 S) ifs S).bind fun b S3 => if b then (ev P n ke ρ1 S3).bind fun y S4 => (ev P n ve ρ1 S4).bind fun z S5 => (match keyOf y with
              | some k => if acc.length < sizeLine then Rs.ok (putKA acc k z) S5 else .bad
              | none => .bad) else .ok acc S3).nox
          | none => .bad)) = F at h1
  have re1 := re.mono le1
  refine ⟨fun i k H' => ∃ ι' S' acc us, RH X.K P.G ι' S' H' ∧ Le X.K ι1 S1.n H1 ι' S'.n H' ∧ (∀ j, j < S'.n → ι' j ≠ D) ∧ H' D = some (.dK us) ∧ RKs X.K P.G ι' S'.n H' acc us ∧ Aft X.K P.G (RVg X P.G) Q (fun c d H' => W c d σ H') ι1 S1 H1 ((loopI it F k i acc S').bind fun acc S2 => alloc S2 (.dct acc)),
    ⟨turns, ι1, S1, [], [], rh1.off hD, Le.new hD, fun j hj => rh1.ne hD hj, upd_same, .nil, h1⟩, ?_⟩
  rintro i k H' ⟨ι', S', acc, us, rh', le', nD, eD, ra, h'⟩
  cases k with
  | zero => exact h'.elim
  | succ k =>
    unfold loopI at h'
    obtain ⟨q1, q2⟩ := rj ι' S' H' i rh' le'.w
    cases e : it.at i S' with
    | none => rw [e] at h'; exact h'.elim
    | some o =>
      cases o with
      | none =>
        rw [e] at h'
        refine .inl ⟨q1 e, ?_⟩
        have h2 : Aft X.K P.G (RVg X P.G) Q (fun c d H' => W c d σ H') ι1 S1 H1 (alloc S' (.dct acc)) := h'
        have rv := RV.ref (K := X.K) (G := P.G) (ι := ext ι' S'.n D) (m := (S'.push (.dct acc)).n) (H := H') (n := S'.n) (by rw [Hs.push_n]; omega)
        rw [ext_new] at rv
        exact h2 (ext ι' S'.n D) H' (.ref D) (rh'.adopt eD nD (.dct ra)) (le'.adopt hD) rv
      | some v =>
        rw [e] at h'
        obtain ⟨go, yl⟩ := q2 v e
        obtain ⟨NX, hNX⟩ : ∃ NX : Hp → Prop, NX = fun H2 => ∃ ι' S' acc us, RH X.K P.G ι' S' H2 ∧ Le X.K ι1 S1.n H1 ι' S'.n H2 ∧ (∀ j, j < S'.n → ι' j ≠ D) ∧ H2 D = some (.dK us) ∧ RKs X.K P.G ι' S'.n H2 acc us ∧ Aft X.K P.G (RVg X P.G) Q (fun c d H' => W c d σ H') ι1 S1 H1 ((loopI it F k (i + 1) acc S').bind fun acc S2 => alloc S2 (.dct acc)) := ⟨_, rfl⟩
        refine .inr ⟨go, NX, fun H2 z => ⟨k, Nat.lt_succ_self _, by rw [hNX] at z; exact z⟩, fun x H2 y => ?_⟩
        obtain ⟨rh2, le2, rv2⟩ := yl x H2 y
        have le02 := le'.trans le2
        have eD2 : H2 D = some (.dK us) := le2.fr D _ eD nD
        have nD2 := ne_of_le le2 eD nD
        have rew := RE.wipe (re1.mono le02) own
        have h2 : Aft X.K P.G (RVg X P.G) Q (fun c d H' => W c d σ H') ι1 S1 H1 (((F v acc S').bind fun b' S' => loopI it F k (i + 1) b' S').bind fun acc S2 => alloc S2 (.dct acc)) := h'
        rw [bind_assoc, ← congrFun (congrFun (congrFun hF v) acc) S'] at h2
        intro s0 H0 C cl fp
        cases ea : asgC own t v (wipeA ρ own) with
        | none => simp only [ea] at h2; exact h2.elim
        | some ρ1 =>
          simp only [ea] at h2
          have hw1 : wipe (wipe σ own) own = wipe σ own := wipe_wipe
          refine ht s0 H0 C cl fp ι' S' (wipeA ρ own) ρ1 (wipe σ own) H2 v x (fun σ2 H2 => wipe σ2 own = wipe σ own ∧ tWtB X scope xifs σ2 H2 fun b H3 =>
    if b = true then tWB X scope xk σ2 H3 fun y H4 => tWB X scope xv σ2 H4 fun z H5 => ∃ kvs k, y = kV k ∧ H5 D = some (.dK kvs) ∧ kvs.length < sizeLine ∧ NX (upd H5 D (.dK (putK kvs k z))) else NX H3) rh2 rew rv2 ea fun σ2 hw2 re2 => ⟨hw2.trans hw1, fun s0 H0 C cl fp => ?_⟩
          refine snts (hifs s0 H0 C cl fp) ι' S' ρ1 σ2 H2 _ rh2 re2 ?_
          cases et : evT (fun e S => ev P n e ρ1 S) ifs S' with
          | bad => rw [et] at h2; exact h2.elim
          | exc _ _ => rw [et] at h2; exact h2.elim
          | ok b S3 =>
            rw [et] at h2
            intro ι3 H3 b' rh3 le3 eb
            cases eb
            cases b with
            | false =>
              rw [if_neg Bool.false_ne_true]
              rw [hNX]
              exact ⟨ι3, S3, acc, us, rh3, le02.trans le3, ne_of_le le3 eD2 nD2, le3.fr D _ eD2 nD2, (ra.mono le2).mono le3, h2⟩
            | true =>
              rw [if_pos rfl]
              intro s0 H0 C cl fp
              refine hk s0 H0 C cl fp ι3 S3 ρ1 σ2 H3 _ rh3 (re2.mono le3) ?_
              have h3 : Aft X.K P.G (RVg X P.G) Q (fun c d H' => W c d σ H') ι1 S1 H1 (((ev P n ke ρ1 S3).bind fun y S4 => (ev P n ve ρ1 S4).bind fun z S5 => (match keyOf y with
              | some k => if acc.length < sizeLine then Rs.ok (putKA acc k z) S5 else .bad
              | none => .bad)).nox.bind fun b' S' => (loopI it _ k (i + 1) b' S').bind fun acc S2 => alloc S2 (.dct acc)) := h2
              cases ee : ev P n ke ρ1 S3 with
              | bad => rw [ee] at h3; exact h3.elim
              | exc _ _ => rw [ee] at h3; exact h3.elim
              | ok y S4 =>
                rw [ee] at h3
                intro ι4 H4 w rh4 le4 rw4 s0 H0 C cl fp
                refine he s0 H0 C cl fp ι4 S4 ρ1 σ2 H4 _ rh4 ((re2.mono le3).mono le4) ?_
                have h4 : Aft X.K P.G (RVg X P.G) Q (fun c d H' => W c d σ H') ι1 S1 H1 (((ev P n ve ρ1 S4).bind fun z S5 => (match keyOf y with
              | some k => if acc.length < sizeLine then Rs.ok (putKA acc k z) S5 else .bad
              | none => .bad)).nox.bind fun b' S' => (loopI it _ k (i + 1) b' S').bind fun acc S2 => alloc S2 (.dct acc)) := h3
                cases ev5 : ev P n ve ρ1 S4 with
                | bad => rw [ev5] at h4; exact h4.elim
                | exc _ _ => rw [ev5] at h4; exact h4.elim
                | ok z S5 =>
                  rw [ev5] at h4
                  intro ι5 H5 w5 rh5 le5 rw5
                  have h5 : Aft X.K P.G (RVg X P.G) Q (fun c d H' => W c d σ H') ι1 S1 H1 ((match keyOf y with
              | some k => if acc.length < sizeLine then Rs.ok (putKA acc k z) S5 else .bad
              | none => .bad).nox.bind fun b' S' => (loopI it _ k (i + 1) b' S').bind fun acc S2 => alloc S2 (.dct acc)) := h4
                  cases ek : keyOf y with
                  | none => rw [ek] at h5; exact h5.elim
                  | some q =>
                    simp only [ek] at h5
                    by_cases cl : acc.length < sizeLine
                    · rw [if_pos cl] at h5
                      have nD3 := ne_of_le le3 eD2 nD2
                      have eD3 := le3.fr D _ eD2 nD2
                      have nD4 := ne_of_le le4 eD3 nD3
                      have eD4 := le4.fr D _ eD3 nD3
                      have nD5 := ne_of_le le5 eD4 nD4
                      have eD5 := le5.fr D _ eD4 nD4
                      have ra5 := (((ra.mono le2).mono le3).mono le4).mono le5
                      have lw : Lw X.K ι5 S5.n H5 ι5 S5.n (upd H5 D (.dK (putK us q w5))) := ⟨Nat.le_refl _, fun _ _ => rfl, sqT_upd_old eD5 trivial⟩
                      refine ⟨us, q, key_rel rw4 ek, eD5, ra5.length ▸ cl, ?_⟩
                      rw [hNX]
                      exact ⟨ι5, S5, putKA acc q z, putK us q w5, rh5.setD eD5 trivial nD5, (((le02.trans le3).trans le4).trans le5).setD hD eD5 trivial, nD5, upd_same, (RKs.put rw5 ra5).monoW lw, h5⟩
                    · rw [if_neg cl] at h5; exact h5.elim
theorem snd_dc (g : Good P d W X) {ke ve : E} {xk xv : Expr} {t : Tg} {tg : Expr} {s : Src} {iter : Expr} {ifs : List E} {xifs : List Expr} {scope : Scope} {own : List (Str × Nat)} (hi : SndI P W X n s tg iter) (ok : BlkOk X.N X.env.scope scope own)
    (ht : ∀ s0 H0 C cl fp, SndC P (blkX X scope s0 H0 C cl fp) (own.map (·.2)) t tg) (hifs : ∀ s0 H0 C cl fp, SndTs P W0 (blkX X scope s0 H0 C cl fp) n ifs xifs) (hk : ∀ s0 H0 C cl fp, SndE P W0 (blkX X scope s0 H0 C cl fp) n ke xk) (he : ∀ s0 H0 C cl fp, SndE P W0 (blkX X scope s0 H0 C cl fp) n ve xv)
    (hf : ∀ x, foldedSetIterable iter X.env x = pure x) : SndE P W X (n + 1) (.dc ke ve t s ifs (own.map (·.2))) (.DictComp xk xv [⟨tg, iter, xifs, 0⟩] scope pos) := fun ι S ρ σ H Q rh re h =>
  tW.of (pe_dc (own := own) (g := tWgB X scope tg) (tt := tWtB X scope xifs) (tk := tWB X scope xk) (tv := tWB X scope xv) g.calm g.nd piW ok (fun s0 H0 C cl fp => ⟨fun pins s σ H v u Q I r z => z s0 H0 C cl fp pins s u I r⟩) (fun s0 H0 C cl fp => ⟨fun pins s σ H Q I z => z s0 H0 C cl fp pins s I⟩) (fun s0 H0 C cl fp => ⟨fun pins s σ H Q I z => z s0 H0 C cl fp pins s I⟩) (fun s0 H0 C cl fp => ⟨fun pins s σ H Q I z => z s0 H0 C cl fp pins s I⟩) hf)
    (dc_read g hi ht hifs hk he ι S ρ σ H Q rh re h)
theorem loopI_succ {β : Type} {it : Itr} {f : AV → β → Hs → Rs β} {m i : Nat} {b : β} {S : Hs} : loopI it f (m + 1) i b S = (match it.at i S with
    | none => .bad
    | some none => .ok b S
    | some (some v) => (f v b S).bind fun b' S' => loopI it f m (i + 1) b' S') := rfl
def tWIB (X : Cx) (scope : Scope) (tg iter : Expr) : TI := fun σ H R => ∀ s0 H0 C cl fp, tWI (blkX X scope s0 H0 C cl fp) tg iter σ H R
theorem lc2_read (g : Good P d W X) {elt : E} {xe : Expr} {t t1 : Tg} {tg tg1 : Expr} {s s1 : Src} {iter iter1 : Expr} {ifs ifs1 : List E} {xifs xifs1 : List Expr} {scope : Scope} {own own1 : List Nat} (hi : SndI P W X n s tg iter)
    (ht : ∀ s0 H0 C cl fp, SndC P (blkX X scope s0 H0 C cl fp) own t tg) (hifs : ∀ s0 H0 C cl fp, SndTs P W0 (blkX X scope s0 H0 C cl fp) n ifs xifs)
    (hi1 : ∀ s0 H0 C cl fp, SndI P W0 (blkX X scope s0 H0 C cl fp) n s1 tg1 iter1) (ht1 : ∀ s0 H0 C cl fp, SndC P (blkX X scope s0 H0 C cl fp) own1 t1 tg1) (hifs1 : ∀ s0 H0 C cl fp, SndTs P W0 (blkX X scope s0 H0 C cl fp) n ifs1 xifs1)
    (he : ∀ s0 H0 C cl fp, SndE P W0 (blkX X scope s0 H0 C cl fp) n elt xe)
    (ι : Nat → Addr) (S : Hs) (ρ : Ev) (σ : L2.St) (H : Hp) (Q : VK) (rh : RH X.K P.G ι S H) (re : RE X.K P.G ι S.n H ρ σ) (h : Aft X.K P.G (RVg X P.G) Q (fun c d H' => W c d σ H') ι S H (ev P (n + 1) (.lc2 elt t s ifs t1 s1 ifs1 own own1) ρ S)) :
    tLc2 (tWI X tg iter) (tWgB X scope tg) (tWtB X scope xifs) (tWIB X scope tg1 iter1) (tWgB X scope tg1) (tWtB X scope xifs1) (tWB X scope xe) own own1 σ H Q := by
  refine hi ι S ρ σ H _ rh re (Aft.bind (Ra := RItg X P) h fun it S1 _ ι1 H1 J rh1 le1 rj h1 => ?_)
  intro D hD
  generalize hG : (fun (ρ1 : Ev) (v1 : AV) (acc : List AV) (S : Hs) => (match asgC own1 t1 v1 (wipeA ρ1 own1) with
                | some ρ2 => (evT (fun e S => ev P n e ρ2 S) ifs1 S).bind fun b S3 => if b then (ev P n elt ρ2 S3).bind fun x S4 => if acc.length < sizeLine then Rs.ok (acc ++ [x]) S4 else .bad else .ok acc S3
                | none => .bad)) = F1 at h1
  have h1 : Aft X.K P.G (RVg X P.G) Q (fun c d H' => W c d σ H') ι1 S1 H1 ((loopI it (fun v acc S => (match asgC own t v (wipeA ρ own) with
          | some ρ1 => ((evT (fun e S => ev P n e ρ1 S) ifs S).bind fun b S3 => if b then (srcA (fun e S => ev P n e ρ1 S) s1 S3).bind fun it1 S4 => loopI it1 (F1 ρ1) turns 0 acc S4 else .ok acc S3).nox
          | none => .bad)) turns 0 [] S1).bind fun acc S2 => alloc S2 (.lst acc)) := by rw [← hG]; exact h1
  generalize hF : (fun (v : AV) (acc : List AV) (S : Hs) => (match asgC own t v (wipeA ρ own) with
          | some ρ1 => ((evT (fun e S => ev P n e ρ1 S) ifs S).bind fun b S3 => if b then (srcA (fun e S => ev P n e ρ1 S) s1 S3).bind fun it1 S4 => loopI it1 (F1 ρ1) turns 0 acc S4 else .ok acc S3).nox
          | none => .bad)) = F at h1
  have re1 := re.mono le1
  refine ⟨fun i k H' => ∃ ι' S' acc us, RH X.K P.G ι' S' H' ∧ Le X.K ι1 S1.n H1 ι' S'.n H' ∧ (∀ j, j < S'.n → ι' j ≠ D) ∧ H' D = some (.lst us) ∧ RVs X.K P.G ι' S'.n H' acc us ∧ Aft X.K P.G (RVg X P.G) Q (fun c d H' => W c d σ H') ι1 S1 H1 ((loopI it F k i acc S').bind fun acc S2 => alloc S2 (.lst acc)),
    ⟨turns, ι1, S1, [], [], rh1.off hD, Le.new hD, fun j hj => rh1.ne hD hj, upd_same, .nil, h1⟩, ?_⟩
  rintro i k H' ⟨ι', S', acc, us, rh', le', nD, eD, ra, h'⟩
  cases k with
  | zero => exact h'.elim
  | succ k =>
    unfold loopI at h'
    obtain ⟨q1, q2⟩ := rj ι' S' H' i rh' le'.w
    cases e : it.at i S' with
    | none => rw [e] at h'; exact h'.elim
    | some o =>
      cases o with
      | none =>
        rw [e] at h'
        refine .inl ⟨q1 e, ?_⟩
        have h2 : Aft X.K P.G (RVg X P.G) Q (fun c d H' => W c d σ H') ι1 S1 H1 (alloc S' (.lst acc)) := h'
        have rv := RV.ref (K := X.K) (G := P.G) (ι := ext ι' S'.n D) (m := (S'.push (.lst acc)).n) (H := H') (n := S'.n) (by rw [Hs.push_n]; omega)
        rw [ext_new] at rv
        exact h2 (ext ι' S'.n D) H' (.ref D) (rh'.adopt eD nD (.lst ra)) (le'.adopt hD) rv
      | some v =>
        rw [e] at h'
        obtain ⟨go, yl⟩ := q2 v e
        obtain ⟨NX, hNX⟩ : ∃ NX : Hp → Prop, NX = fun H2 => ∃ ι' S' acc us, RH X.K P.G ι' S' H2 ∧ Le X.K ι1 S1.n H1 ι' S'.n H2 ∧ (∀ j, j < S'.n → ι' j ≠ D) ∧ H2 D = some (.lst us) ∧ RVs X.K P.G ι' S'.n H2 acc us ∧ Aft X.K P.G (RVg X P.G) Q (fun c d H' => W c d σ H') ι1 S1 H1 ((loopI it F k (i + 1) acc S').bind fun acc S2 => alloc S2 (.lst acc)) := ⟨_, rfl⟩
        refine .inr ⟨go, NX, fun H2 z => ⟨k, Nat.lt_succ_self _, by rw [hNX] at z; exact z⟩, fun x H2 y => ?_⟩
        obtain ⟨rh2, le2, rv2⟩ := yl x H2 y
        have le02 := le'.trans le2
        have eD2 : H2 D = some (.lst us) := le2.fr D _ eD nD
        have nD2 := ne_of_le le2 eD nD
        have rew := RE.wipe (re1.mono le02) own
        have h2 : Aft X.K P.G (RVg X P.G) Q (fun c d H' => W c d σ H') ι1 S1 H1 (((F v acc S').bind fun b' S' => loopI it F k (i + 1) b' S').bind fun acc S2 => alloc S2 (.lst acc)) := h'
        rw [bind_assoc, ← congrFun (congrFun (congrFun hF v) acc) S'] at h2
        intro s0 H0 C cl fp
        cases ea : asgC own t v (wipeA ρ own) with
        | none => simp only [ea] at h2; exact h2.elim
        | some ρ1 =>
          simp only [ea] at h2
          have hw1 : wipe (wipe σ own) own = wipe σ own := wipe_wipe
          refine ht s0 H0 C cl fp ι' S' (wipeA ρ own) ρ1 (wipe σ own) H2 v x (fun σ2 H2 => wipe σ2 own = wipe σ own ∧ tWtB X scope xifs σ2 H2 fun b H3 =>
            if b = true then tWIB X scope tg1 iter1 σ2 H3 fun J1 H4 => ∃ W1 : Nat → Nat → Hp → Prop, (∃ m, W1 0 m H4) ∧ ∀ j k H, W1 j k H →
              (J1.stop j H ∧ NX H) ∨ (J1.go j H ∧ ∃ Nx1 : Hp → Prop, (∀ H', Nx1 H' → ∃ k', k' < k ∧ W1 (j + 1) k' H') ∧ ∀ x H', J1.yld j H x H' → tWgB X scope tg1 x (wipe σ2 own1) H' fun σ3 H5 => wipe σ3 own1 = wipe σ2 own1 ∧ tWtB X scope xifs1 σ3 H5 fun b H6 =>
                if b = true then tWB X scope xe σ3 H6 fun y H7 => ∃ acc, H7 D = some (.lst acc) ∧ acc.length < sizeLine ∧ Nx1 (upd H7 D (.lst (acc ++ [y]))) else Nx1 H6)
            else NX H3) rh2 rew rv2 ea fun σ2 hw2 re2 => ⟨hw2.trans hw1, fun s0 H0 C cl fp => ?_⟩
          refine snts (hifs s0 H0 C cl fp) ι' S' ρ1 σ2 H2 _ rh2 re2 ?_
          cases et : evT (fun e S => ev P n e ρ1 S) ifs S' with
          | bad => rw [et] at h2; exact h2.elim
          | exc _ _ => rw [et] at h2; exact h2.elim
          | ok b S3 =>
            rw [et] at h2
            intro ι3 H3 b' rh3 le3 eb
            cases eb
            have le03 := le02.trans le3
            have nD3 := ne_of_le le3 eD2 nD2
            have eD3 := le3.fr D _ eD2 nD2
            have ra3 := (ra.mono le2).mono le3
            have re3 := re2.mono le3
            cases b with
            | false =>
              rw [if_neg Bool.false_ne_true]
              rw [hNX]
              exact ⟨ι3, S3, acc, us, rh3, le03, nD3, eD3, ra3, h2⟩
            | true =>
              rw [if_pos rfl]
              intro s0 H0 C cl fp
              have h3 : Aft X.K P.G (RVg X P.G) Q (fun c d H' => W c d σ H') ι1 S1 H1 (((srcA (fun e S => ev P n e ρ1 S) s1 S3).bind fun it1 S4 => loopI it1 (F1 ρ1) turns 0 acc S4).nox.bind fun b' S' => (loopI it F k (i + 1) b' S').bind fun acc S2 => alloc S2 (.lst acc)) := h2
              refine hi1 s0 H0 C cl fp ι3 S3 ρ1 σ2 H3 _ rh3 re3 ?_
              cases es : srcA (fun e S => ev P n e ρ1 S) s1 S3 with
              | bad => rw [es] at h3; exact h3.elim
              | exc _ _ => rw [es] at h3; exact h3.elim
              | ok it1 S4 =>
                rw [es] at h3
                intro ι4 H4 J1 rh4 le4 rj1
                have le04 := le03.trans le4
                have nD4 := ne_of_le le4 eD3 nD3
                have eD4 := le4.fr D _ eD3 nD3
                have re4 := re3.mono le4
                refine ⟨fun j kk H5 => ∃ ι5 S5 acc us, RH X.K P.G ι5 S5 H5 ∧ Le X.K ι1 S1.n H1 ι5 S5.n H5 ∧ Lw X.K ι4 S4.n H4 ι5 S5.n H5 ∧ (∀ j, j < S5.n → ι5 j ≠ D) ∧ H5 D = some (.lst us) ∧ RVs X.K P.G ι5 S5.n H5 acc us ∧ Aft X.K P.G (RVg X P.G) Q (fun c d H' => W c d σ H') ι1 S1 H1 ((loopI it1 (F1 ρ1) kk j acc S5).nox.bind fun b' S' => (loopI it F k (i + 1) b' S').bind fun acc S2 => alloc S2 (.lst acc)),
                  ⟨turns, ι4, S4, acc, us, rh4, le04, ⟨Nat.le_refl _, fun _ _ => rfl, fun _ _ h => h⟩, nD4, eD4, ra3.mono le4, h3⟩, ?_⟩
                rintro j kk H5 ⟨ι5, S5, acc5, us5, rh5, le5, lw5, nD5, eD5, ra5, h5⟩
                cases kk with
                | zero => exact h5.elim
                | succ kk =>
                  rw [loopI_succ (it := it1) (m := kk)] at h5
                  obtain ⟨p1, p2⟩ := rj1 ι5 S5 H5 j rh5 lw5
                  cases e5 : it1.at j S5 with
                  | none => rw [e5] at h5; exact h5.elim
                  | some o5 =>
                    cases o5 with
                    | none =>
                      rw [e5] at h5
                      refine .inl ⟨p1 e5, ?_⟩
                      rw [hNX]
                      exact ⟨ι5, S5, acc5, us5, rh5, le5, nD5, eD5, ra5, h5⟩
                    | some v5 =>
                      rw [e5] at h5
                      obtain ⟨go5, yl5⟩ := p2 v5 e5
                      obtain ⟨NY, hNY⟩ : ∃ NY : Hp → Prop, NY = fun H6 => ∃ ι5 S5 acc us, RH X.K P.G ι5 S5 H6 ∧ Le X.K ι1 S1.n H1 ι5 S5.n H6 ∧ Lw X.K ι4 S4.n H4 ι5 S5.n H6 ∧ (∀ j, j < S5.n → ι5 j ≠ D) ∧ H6 D = some (.lst us) ∧ RVs X.K P.G ι5 S5.n H6 acc us ∧ Aft X.K P.G (RVg X P.G) Q (fun c d H' => W c d σ H') ι1 S1 H1 ((loopI it1 (F1 ρ1) kk (j + 1) acc S5).nox.bind fun b' S' => (loopI it F k (i + 1) b' S').bind fun acc S2 => alloc S2 (.lst acc)) := ⟨_, rfl⟩
                      refine .inr ⟨go5, NY, fun H6 z => ⟨kk, Nat.lt_succ_self _, by rw [hNY] at z; exact z⟩, fun x6 H6 y6 => ?_⟩
                      obtain ⟨rh6, le6, rv6⟩ := yl5 x6 H6 y6
                      have eD6 : H6 D = some (.lst us5) := le6.fr D _ eD5 nD5
                      have nD6 := ne_of_le le6 eD5 nD5
                      have lw6 := lw5.trans le6.w
                      have rew6 := RE.wipe (re4.monoW lw6) own1
                      have h6 : Aft X.K P.G (RVg X P.G) Q (fun c d H' => W c d σ H') ι1 S1 H1 (((F1 ρ1 v5 acc5 S5).bind fun b' S' => loopI it1 (F1 ρ1) kk (j + 1) b' S').nox.bind fun b' S' => (loopI it F k (i + 1) b' S').bind fun acc S2 => alloc S2 (.lst acc)) := h5
                      rw [← congrFun (congrFun (congrFun (congrFun hG ρ1) v5) acc5) S5] at h6
                      intro s0 H0 C cl fp
                      cases ea5 : asgC own1 t1 v5 (wipeA ρ1 own1) with
                      | none => simp only [ea5] at h6; exact h6.elim
                      | some ρ2 =>
                        simp only [ea5] at h6
                        have hw5 : wipe (wipe σ2 own1) own1 = wipe σ2 own1 := wipe_wipe
                        refine ht1 s0 H0 C cl fp ι5 S5 (wipeA ρ1 own1) ρ2 (wipe σ2 own1) H6 v5 x6 (fun σ3 H5 => wipe σ3 own1 = wipe σ2 own1 ∧ tWtB X scope xifs1 σ3 H5 fun b H6 =>
                          if b = true then tWB X scope xe σ3 H6 fun y H7 => ∃ acc, H7 D = some (.lst acc) ∧ acc.length < sizeLine ∧ NY (upd H7 D (.lst (acc ++ [y]))) else NY H6) rh6 rew6 rv6 ea5 fun σ3 hw3 re6 => ⟨hw3.trans hw5, fun s0 H0 C cl fp => ?_⟩
                        refine snts (hifs1 s0 H0 C cl fp) ι5 S5 ρ2 σ3 H6 _ rh6 re6 ?_
                        cases et5 : evT (fun e S => ev P n e ρ2 S) ifs1 S5 with
                        | bad => rw [et5] at h6; exact h6.elim
                        | exc _ _ => rw [et5] at h6; exact h6.elim
                        | ok b6 S7 =>
                          rw [et5] at h6
                          intro ι7 H7 b7 rh7 le7 eb7
                          cases eb7
                          have eD7 := le7.fr D _ eD6 nD6
                          have nD7 := ne_of_le le7 eD6 nD6
                          have le07 := (le5.trans le6).trans le7
                          have lw7 := lw6.trans le7.w
                          have ra7 := (ra5.mono le6).mono le7
                          cases b6 with
                          | false =>
                            rw [if_neg Bool.false_ne_true, hNY]
                            exact ⟨ι7, S7, acc5, us5, rh7, le07, lw7, nD7, eD7, ra7, h6⟩
                          | true =>
                            rw [if_pos rfl]
                            intro s0 H0 C cl fp
                            refine he s0 H0 C cl fp ι7 S7 ρ2 σ3 H7 _ rh7 (re6.mono le7) ?_
                            have h7 : Aft X.K P.G (RVg X P.G) Q (fun c d H' => W c d σ H') ι1 S1 H1 ((((ev P n elt ρ2 S7).bind fun x S4 => if acc5.length < sizeLine then Rs.ok (acc5 ++ [x]) S4 else .bad).bind fun b' S' => loopI it1 (F1 ρ1) kk (j + 1) b' S').nox.bind fun b' S' => (loopI it F k (i + 1) b' S').bind fun acc S2 => alloc S2 (.lst acc)) := h6
                            cases ee : ev P n elt ρ2 S7 with
                            | bad => rw [ee] at h7; exact h7.elim
                            | exc _ _ => rw [ee] at h7; exact h7.elim
                            | ok y S8 =>
                              rw [ee] at h7
                              intro ι8 H8 w8 rh8 le8 rw8
                              have h8 : Aft X.K P.G (RVg X P.G) Q (fun c d H' => W c d σ H') ι1 S1 H1 (((if acc5.length < sizeLine then Rs.ok (acc5 ++ [y]) S8 else .bad).bind fun b' S' => loopI it1 (F1 ρ1) kk (j + 1) b' S').nox.bind fun b' S' => (loopI it F k (i + 1) b' S').bind fun acc S2 => alloc S2 (.lst acc)) := h7
                              by_cases cl : acc5.length < sizeLine
                              · rw [if_pos cl] at h8
                                have eD8 := le8.fr D _ eD7 nD7
                                have nD8 := ne_of_le le8 eD7 nD7
                                have ra8 := ra7.mono le8
                                have lw : Lw X.K ι8 S8.n H8 ι8 S8.n (upd H8 D (.lst (us5 ++ [w8]))) := ⟨Nat.le_refl _, fun _ _ => rfl, sqT_upd_old eD8 trivial⟩
                                refine ⟨us5, eD8, ra8.length ▸ cl, ?_⟩
                                rw [hNY]
                                exact ⟨ι8, S8, acc5 ++ [y], us5 ++ [w8], rh8.setD eD8 trivial nD8, (le07.trans le8).setD hD eD8 trivial, (lw7.trans le8.w).trans lw, nD8, upd_same, (ra8.append (.cons rw8 .nil)).monoW lw, h8⟩
                              · rw [if_neg cl] at h8; exact h8.elim
section
variable {elt : E} {xe : Expr} {t t1 : Tg} {tg tg1 : Expr} {s s1 : Src} {iter iter1 : Expr} {ifs ifs1 : List E} {xifs xifs1 : List Expr} {scope : Scope} {own : List (Str × Nat)} {own1 : List Nat}
theorem snd_lc2 (g : Good P d W X) (hi : SndI P W X n s tg iter) (ok : BlkOk X.N X.env.scope scope own) (hv : ∀ i ∈ own1, i ∈ own.map (·.2))
    (ht : ∀ s0 H0 C cl fp, SndC P (blkX X scope s0 H0 C cl fp) (own.map (·.2)) t tg) (hifs : ∀ s0 H0 C cl fp, SndTs P W0 (blkX X scope s0 H0 C cl fp) n ifs xifs)
    (hi1 : ∀ s0 H0 C cl fp, SndI P W0 (blkX X scope s0 H0 C cl fp) n s1 tg1 iter1) (ht1 : ∀ s0 H0 C cl fp, SndC P (blkX X scope s0 H0 C cl fp) own1 t1 tg1) (hifs1 : ∀ s0 H0 C cl fp, SndTs P W0 (blkX X scope s0 H0 C cl fp) n ifs1 xifs1)
    (he : ∀ s0 H0 C cl fp, SndE P W0 (blkX X scope s0 H0 C cl fp) n elt xe)
    (hf : ∀ x, foldedSetIterable iter X.env x = pure x) (hf1 : ∀ env x, foldedSetIterable iter1 env x = pure x) : SndE P W X (n + 1) (.lc2 elt t s ifs t1 s1 ifs1 (own.map (·.2)) own1) (.ListComp xe [⟨tg, iter, xifs, 0⟩, ⟨tg1, iter1, xifs1, 0⟩] scope pos) := fun ι S ρ σ H Q rh re h =>
  tW.of (pe_lc2 (own := own) (vs1 := own1) (g := tWgB X scope tg) (tt := tWtB X scope xifs) (wi1 := tWIB X scope tg1 iter1) (g1 := tWgB X scope tg1) (tt1 := tWtB X scope xifs1) (te := tWB X scope xe) g.calm g.nd piW ok hv (fun s0 H0 C cl fp => ⟨fun pins s σ H v u Q I r z => z s0 H0 C cl fp pins s u I r⟩) (fun s0 H0 C cl fp => ⟨fun pins s σ H Q I z => z s0 H0 C cl fp pins s I⟩)
    (fun s0 H0 C cl fp => ⟨fun pins s σ H Q I z => z s0 H0 C cl fp pins s I⟩) (fun s0 H0 C cl fp => ⟨fun pins s σ H v u Q I r z => z s0 H0 C cl fp pins s u I r⟩) (fun s0 H0 C cl fp => ⟨fun pins s σ H Q I z => z s0 H0 C cl fp pins s I⟩) (fun s0 H0 C cl fp => ⟨fun pins s σ H Q I z => z s0 H0 C cl fp pins s I⟩) hf hf1)
    (lc2_read g hi ht hifs hi1 ht1 hifs1 he ι S ρ σ H Q rh re h)
theorem snst_setLc2 (g : Good P d W X) {y : Str} {py spos : Pos} {i : Nat} (hi : SndI P W X n s tg iter) (ok : BlkOk X.N X.env.scope scope own) (hv : ∀ i ∈ own1, i ∈ own.map (·.2))
    (ht : ∀ s0 H0 C cl fp, SndC P (blkX X scope s0 H0 C cl fp) (own.map (·.2)) t tg) (hifs : ∀ s0 H0 C cl fp, SndTs P W0 (blkX X scope s0 H0 C cl fp) n ifs xifs)
    (hi1 : ∀ s0 H0 C cl fp, SndI P W0 (blkX X scope s0 H0 C cl fp) n s1 tg1 iter1) (ht1 : ∀ s0 H0 C cl fp, SndC P (blkX X scope s0 H0 C cl fp) own1 t1 tg1) (hifs1 : ∀ s0 H0 C cl fp, SndTs P W0 (blkX X scope s0 H0 C cl fp) n ifs1 xifs1)
    (he : ∀ s0 H0 C cl fp, SndE P W0 (blkX X scope s0 H0 C cl fp) n elt xe)
    (hf : ∀ x, foldedSetIterable iter X.env x = pure x) (hf1 : ∀ env x, foldedSetIterable iter1 env x = pure x) (hy : X.N[i]? = some y) (hyl : X.env.scope.names.lookup y = some .local)
    (hsw : X.env.scope.kind = .function → swapsWith (.ListComp xe [⟨tg, iter, xifs, 0⟩, ⟨tg1, iter1, xifs1, 0⟩] scope pos) (some (.Name y py)) spos.line X.env = pure true) :
    SndSt P W X (n + 2) (.asg (.nm i) (.lc2 elt t s ifs t1 s1 ifs1 (own.map (·.2)) own1)) (.Assign [.Name y py] (.ListComp xe [⟨tg, iter, xifs, 0⟩, ⟨tg1, iter1, xifs1, 0⟩] scope pos) spos) := fun ι S ρ σ H D rh re h => by
  intro pins s0 I
  refine (ps_setLc2 (own := own) (vs1 := own1) (g := tWgB X scope tg) (tt := tWtB X scope xifs) (wi1 := tWIB X scope tg1 iter1) (g1 := tWgB X scope tg1) (tt1 := tWtB X scope xifs1) (te := tWB X scope xe) g.calm g.nd hy hyl (hsw I.ok.kind) piW ok hv (fun s0 H0 C cl fp => ⟨fun pins s σ H v u Q I r z => z s0 H0 C cl fp pins s u I r⟩) (fun s0 H0 C cl fp => ⟨fun pins s σ H Q I z => z s0 H0 C cl fp pins s I⟩)
    (fun s0 H0 C cl fp => ⟨fun pins s σ H Q I z => z s0 H0 C cl fp pins s I⟩) (fun s0 H0 C cl fp => ⟨fun pins s σ H v u Q I r z => z s0 H0 C cl fp pins s u I r⟩) (fun s0 H0 C cl fp => ⟨fun pins s σ H Q I z => z s0 H0 C cl fp pins s I⟩) (fun s0 H0 C cl fp => ⟨fun pins s σ H Q I z => z s0 H0 C cl fp pins s I⟩) hf hf1).run pins s0 σ H D I ?_
  refine lc2_read g hi ht hifs hi1 ht1 hifs1 he ι S ρ σ H _ rh re (AftR.st (Ra := RVg X P.G) h re fun v S1 _ ι1 H1 w rh1 le1 r1 h1 => ?_)
  have h2 : AftR P W X D ι1 S1 H1 ((if i < ρ.length then Rs.ok (ρ.set i (some v)) S1 else .bad).st ρ fun ρ1 S2 => .fl (.nx ρ1) S2) := h1
  split at h2
  · exact h2 ι1 H1 _ rh1 Le.refl ((re.mono le1).set i r1)
  · exact h2.elim
end
end
end Ab

namespace Ab
open PySem L2
section
variable {P : Pe} {d n m : Nat} {W : WX} {X : Cx} {pos : Pos} {a b c : E} {xa xb xc : Expr}
/-- pairs of values -/
inductive RPs (K : PySem.W.Frag) (G : Gx) (ι : Nat → Addr) (m : Nat) (H : Hp) : List (AV × AV) → List (V × V) → Prop
  | nil : RPs K G ι m H [] []
  | cons {x y : AV} {v w : V} {r : List (AV × AV)} {q : List (V × V)} : RV K G ι m H x v → RV K G ι m H y w → RPs K G ι m H r q → RPs K G ι m H ((x, y) :: r) ((v, w) :: q)
inductive PrE (P : Pe) (W : WX) (X : Cx) (n : Nat) : List E → List E → List (Option Expr) → List Expr → Prop
  | nil : PrE P W X n [] [] [] []
  | cons {k v : E} {xk xv : Expr} {ks vs : List E} {xks : List (Option Expr)} {xvs : List Expr} : SndE P W X n k xk → SndE P W X n v xv → PrE P W X n ks vs xks xvs → PrE P W X n (k :: ks) (v :: vs) (some xk :: xks) (xv :: xvs)
abbrev RPsX (X : Cx) (P : Pe) : Rl (List (AV × AV)) (List (V × V)) := fun ι m H x v => RPs X.K P.G ι m H x v
def trsOf (X : Cx) : List (Option Expr) → List Expr → List (TE × TE)
  | some k :: ks, v :: vs => (tW X k, tW X v) :: trsOf X ks vs
  | _, _ => []
theorem pps_of : ∀ {ks vs : List E} {xks : List (Option Expr)} {xvs : List Expr}, PrE P W X n ks vs xks xvs → PPs X pos xks xvs (trsOf X xks xvs)
  | _, _, _, _, .nil => pps_nil
  | _, _, _, _, .cons _ _ r => pps_cons peW peW (pps_of r)
theorem snd_pairs {ρ : Ev} {σ : L2.St} : ∀ {ks vs : List E} {xks : List (Option Expr)} {xvs : List Expr}, PrE P W X n ks vs xks xvs → ∀ (ι : Nat → Addr) (S : Hs) (H : Hp) (Q : List (V × V) → Hp → Prop), RH X.K P.G ι S H → RE X.K P.G ι S.n H ρ σ →
    Aft X.K P.G (RPsX X P) Q (fun c d H' => W c d σ H') ι S H (evP (fun e S => ev P n e ρ S) ks vs S) → tPairs (trsOf X xks xvs) σ H Q
  | _, _, _, _, .nil => fun ι S H Q rh re h => Aft.now (R := RPsX X P) h rh .nil
  | _, _, _, _, .cons hk hv hr => fun ι S H Q rh re h => by
    refine hk ι S ρ σ H _ rh re (Aft.bind (Ra := RVg X P.G) h fun x S1 _ ι1 H1 w1 rh1 le1 r1 h1 => ?_)
    refine hv ι1 S1 ρ σ H1 _ rh1 (re.mono le1) (Aft.bind (Ra := RVg X P.G) h1 fun y S2 _ ι2 H2 w2 rh2 le2 r2 h2 => ?_)
    refine snd_pairs hr ι2 S2 H2 _ rh2 ((re.mono le1).mono le2) (Aft.bind (Ra := RPsX X P) h2 fun r S3 _ ι3 H3 w3 rh3 le3 r3 h3 => ?_)
    exact Aft.now (R := RPsX X P) h3 rh3 (.cons ((r1.mono le2).mono le3) (r2.mono le3) r3)
theorem keysA_rel {K : PySem.W.Frag} {G : Gx} {ι : Nat → Addr} {m : Nat} {H : Hp} (X : Cx) (hX : X.K = K) : ∀ {ps : List (AV × AV)} {qs : List (V × V)} {kvs : List (Key × AV)}, RPs K G ι m H ps qs → keysA ps = some kvs → ∃ ws : List (Key × V), qs = ws.map (fun kv => (kV kv.1, kv.2)) ∧ RKs K G ι m H kvs ws
  | _, _, _, .nil, e => by cases e; exact ⟨[], rfl, .nil⟩
  | _, _, _, .cons (x := x) (r := r) rx ry t, e => by
    subst hX
    unfold keysA at e
    cases h1 : keyOf x with
    | none => rw [h1] at e; cases e
    | some k =>
      cases h2 : keysA r with
      | none => rw [h1, h2] at e; cases e
      | some l =>
        rw [h1, h2] at e
        cases e
        obtain ⟨ws, e1, e2⟩ := keysA_rel X rfl t h2
        exact ⟨(k, _) :: ws, by rw [e1, key_rel rx h1]; rfl, .cons ry e2⟩
theorem merge_rel {K : PySem.W.Frag} {G : Gx} {ι : Nat → Addr} {m : Nat} {H : Hp} : ∀ {more : List (Key × AV)} {wm : List (Key × V)} {kvs : List (Key × AV)} {ws : List (Key × V)}, RKs K G ι m H more wm → RKs K G ι m H kvs ws → RKs K G ι m H (mergeA kvs more) (mergeK ws wm)
  | _, _, _, _, .nil, h => h
  | _, _, _, _, .cons (k := k) r t, h => by
    have q := merge_rel t (RKs.put (k := k) r h)
    exact q
theorem PrE.facts : ∀ {ks vs : List E} {xks : List (Option Expr)} {xvs : List Expr}, PrE P W X n ks vs xks xvs → xks.all (·.isSome) = true ∧ xks.length = xvs.length
  | _, _, _, _, .nil => ⟨rfl, rfl⟩
  | _, _, _, _, .cons _ _ r => ⟨by rw [List.all_cons, (PrE.facts r).1]; rfl, by rw [List.length_cons, List.length_cons, (PrE.facts r).2]⟩
theorem snd_dct (g : Good P d W X) {ks vs : List E} {xks : List (Option Expr)} {xvs : List Expr} (h0 : xks ≠ []) (h15 : xks.length ≤ 15) (hp : PrE P W X n ks vs xks xvs) : SndE P W X (n + 1) (.dct ks vs) (.Dict xks xvs pos) := fun ι S ρ σ H Q rh re h => by
  refine tW.of (pe_disp (pps_of hp) hp.facts.1 hp.facts.2 h0 h15) ?_
  intro p hpn
  have h' : Aft X.K P.G (RVg X P.G) Q (fun c d H' => W c d σ H') ι S (upd H p (.dK [])) ((evP (fun e S => ev P n e ρ S) ks vs S).bind fun ps S1 => (match keysA ps with
      | some kvs => if kvs.length ≤ 15 then alloc S1 (.dct (mergeA [] kvs)) else .bad
      | none => .bad)) := Aft.shift (S1 := S) h (Le.new hpn)
  have h1 : Aft X.K P.G (RVg X P.G) Q (fun c d H' => W c d σ H') ι S H ((evP (fun e S => ev P n e ρ S) ks vs S).bind fun ps S1 => (match keysA ps with
      | some kvs => if kvs.length ≤ 15 then alloc S1 (.dct (mergeA [] kvs)) else .bad
      | none => .bad)) := h
  refine snd_pairs hp ι S (upd H p (.dK [])) _ (rh.off hpn) (re.mono (Le.new hpn)) ?_
  cases e : evP (fun e S => ev P n e ρ S) ks vs S with
  | bad => rw [e] at h'; exact h'.elim
  | exc z S1 => rw [e] at h'; exact h'
  | ok ps S1 =>
    rw [e] at h1
    intro ι1 H1 qs rh1 le1 rp
    have h2 : Aft X.K P.G (RVg X P.G) Q (fun c d H' => W c d σ H') ι S H (match keysA ps with
      | some kvs => if kvs.length ≤ 15 then alloc S1 (.dct (mergeA [] kvs)) else .bad
      | none => .bad) := h1
    cases ek : keysA ps with
    | none => rw [ek] at h2; exact h2.elim
    | some kvs =>
      simp only [ek] at h2
      obtain ⟨ws, e1, rk⟩ := keysA_rel X rfl rp ek
      have nP : ∀ j, j < S.n → ι j ≠ p := fun j hj => rh.ne hpn hj
      have eP := le1.fr p _ upd_same nP
      have nP1 := ne_of_le le1 upd_same nP
      by_cases cl : kvs.length ≤ 15
      · rw [if_pos cl] at h2
        refine ⟨eP, ws, e1, by rw [← rk.length]; exact cl, ?_⟩
        have rm := merge_rel rk (.nil (K := X.K) (G := P.G) (ι := ι1) (m := S1.n) (H := H1))
        have lw : Lw X.K ι1 S1.n H1 ι1 S1.n (upd H1 p (.dK (mergeK [] ws))) := ⟨Nat.le_refl _, fun _ _ => rfl, sqT_upd_old eP trivial⟩
        have rh2 := rh1.setD (u := .dK (mergeK [] ws)) eP trivial nP1
        have rh3 := rh2.adopt (o := .dct (mergeA [] kvs)) upd_same nP1 (.dct (rm.monoW lw))
        have le2 := ((Le.new hpn (K := X.K) (ι := ι) (m := S.n) (u := .dK [])).trans le1).setD (u := .dK (mergeK [] ws)) hpn eP trivial
        have rv := RV.ref (K := X.K) (G := P.G) (ι := ext ι1 S1.n p) (m := (S1.push (.dct (mergeA [] kvs))).n) (H := upd H1 p (.dK (mergeK [] ws))) (n := S1.n) (by rw [Hs.push_n]; omega)
        rw [ext_new] at rv
        exact h2 (ext ι1 S1.n p) _ (.ref p) rh3 (le2.adopt hpn) rv
      · rw [if_neg cl] at h2; exact h2.elim
theorem snd_dct0 (g : Good P d W X) : SndE P W X (n + 1) (.dct [] []) (.Dict [] [] pos) := fun ι S ρ σ H Q rh re h => by
  refine tW.of pe_dnewK fun p hp => ?_
  have h' : Aft X.K P.G (RVg X P.G) Q (fun c d H' => W c d σ H') ι S H (alloc S (.dct [])) := h
  have rv := RV.ref (K := X.K) (G := P.G) (ι := ext ι S.n p) (m := (S.push (.dct [])).n) (H := upd H p (.dK [])) (n := S.n) (by rw [Hs.push_n]; omega)
  rw [ext_new] at rv
  exact h' (ext ι S.n p) _ (.ref p) (rh.push hp (.dct .nil)) (Le.push (S := S) hp) rv
theorem rg_rel {K : PySem.W.Frag} {G : Gx} {ι : Nat → Addr} {m : Nat} {H : Hp} (k : Nat) : RVs K G ι m H ((List.range k).map fun i => .int (i : Nat)) ((List.range k).map fun i => V.int (0 + (i : Nat))) := by
  have q : ∀ l : List Nat, RVs K G ι m H (l.map fun i => .int (i : Nat)) (l.map fun i => V.int (0 + (i : Nat))) := by
    intro l
    induction l with
    | nil => exact .nil
    | cons x r ih =>
      refine .cons ?_ ih
      have e : (0 : Int) + (x : Int) = (x : Int) := by omega
      show RV K G ι m H (.int (x : Int)) (.int (0 + (x : Int)))
      rw [e]
      exact .int _
  exact q _
theorem snd_lrng (g : Good P d W X) {p p2 pos2 : Pos} (ha : SndE P W X n a xa) (hs : isStarX xa = false) (hg : Gl X "list") (hg2 : Gl X "range") : SndE P W X (n + 1) (.blt .lrng [a]) (.Call (.Name "list" p) [.Call (.Name "range" p2) [xa] [] pos2] [] pos) := fun ι S ρ σ H Q rh re h => by
  refine tW.of (pe_listRg g.calm hg (g.mf.free _ (by decide)) (prg_1 hg2 (g.mf.free _ (by decide)) peW (starEach_cons hs))) ?_
  have h0 : Aft X.K P.G (RVg X P.G) Q (fun c d H' => W c d σ H') ι S H ((ev P n a ρ S).bind fun v S1 => bltA .lrng [v] S1) := by
    have e : (evL (fun e S => ev P n e ρ S) [a] S).bind (fun vs S1 => bltA .lrng vs S1) = ((ev P n a ρ S).bind fun v S1 => bltA .lrng [v] S1) := by
      show ((ev P n a ρ S).bind fun v S1 => (Rs.ok ([] : List AV) S1).bind fun vs S2 => Rs.ok (v :: vs) S2).bind _ = _
      rw [bind_assoc]; rfl
    rw [← e]; exact h
  refine ha ι S ρ σ H _ rh re (Aft.bind h0 fun v S1 _ ι1 H1 w rh1 le1 r1 h1 => ?_)
  cases r1 with
  | int k =>
    have h2 : Aft X.K P.G (RVg X P.G) Q (fun c d H' => W c d σ H') ι1 S1 H1 (if -(2 ^ 62) ≤ k ∧ k ≤ 2 ^ 24 then alloc S1 (.lst ((List.range k.toNat).map fun i => .int (i : Nat))) else .bad) := h1
    split at h2
    · rename_i cc
      refine ⟨k, rfl, ⟨by decide, by decide, cc.1, by omega, by omega⟩, fun q hq => ?_⟩
      have rv := RV.ref (K := X.K) (G := P.G) (ι := ext ι1 S1.n q) (m := (S1.push (.lst ((List.range k.toNat).map fun i => .int (i : Nat)))).n) (H := upd H1 q (.lst (rgV 0 k))) (n := S1.n) (by rw [Hs.push_n]; omega)
      rw [ext_new] at rv
      refine h2 (ext ι1 S1.n q) _ (.ref q) (rh1.push hq (.lst ?_)) (Le.push (S := S1) hq) rv
      unfold rgV
      rw [Int.sub_zero]
      exact rg_rel _
    · exact h2.elim
  | _ => exact h1.elim
theorem snd_lenset (g : Good P d W X) {p p2 pos2 : Pos} (ha : SndE P W X n a xa) (hs : isStarX xa = false) (hg : Gl X "len") (hg2 : Gl X "set") : SndE P W X (n + 1) (.blt .lenset [a]) (.Call (.Name "len" p) [.Call (.Name "set" p2) [xa] [] pos2] [] pos) := fun ι S ρ σ H Q rh re h => by
  refine tW.of (pe_lsT g.calm hg (g.mf.free _ (by decide)) hg2 (g.mf.free _ (by decide)) peW (starEach_cons hs)) ?_
  have h0 : Aft X.K P.G (RVg X P.G) Q (fun c d H' => W c d σ H') ι S H ((ev P n a ρ S).bind fun v S1 => bltA .lenset [v] S1) := by
    have e : (evL (fun e S => ev P n e ρ S) [a] S).bind (fun vs S1 => bltA .lenset vs S1) = ((ev P n a ρ S).bind fun v S1 => bltA .lenset [v] S1) := by
      show ((ev P n a ρ S).bind fun v S1 => (Rs.ok ([] : List AV) S1).bind fun vs S2 => Rs.ok (v :: vs) S2).bind _ = _
      rw [bind_assoc]; rfl
    rw [← e]; exact h
  refine ha ι S ρ σ H _ rh re (Aft.bind h0 fun v S1 _ ι1 H1 w rh1 le1 r1 h1 => ?_)
  cases r1 with
  | ref hr =>
    rename_i k _
    have h2 : Aft X.K P.G (RVg X P.G) Q (fun c d H' => W c d σ H') ι1 S1 H1 (match seqAt S1 k with
      | some ys => (match strsOf ys with
        | some zs => if zs.length ≤ 4000 then .ok (.int ((ddS zs).length : Nat)) S1 else .bad
        | none => .bad)
      | none => .bad) := h1
    cases e1 : seqAt S1 k with
    | none => rw [e1] at h2; exact h2.elim
    | some ys =>
      rw [e1] at h2
      obtain ⟨vs, q1, q2⟩ := seqAt_rel rh1 e1
      cases e2 : strsOf ys with
      | none => simp only [e2] at h2; exact h2.elim
      | some zs =>
        simp only [e2] at h2
        split at h2
        · rename_i cc
          rw [strs_rel (X := X) q2 e2] at q1
          exact ⟨_, zs, rfl, q1, cc, Aft.now (R := RVg X P.G) h2 rh1 (.int _)⟩
        · exact h2.elim
  | _ => exact h1.elim
end
end Ab

namespace Ab
open PySem L2
section
variable {P : Pe} {d n m : Nat} {W : WX} {X : Cx} {pos : Pos} {a b c : E} {xa xb xc : Expr}
def tWk (X : Cx) (kws : List Keyword) : TA := fun σ H Q => ∀ (pos : Pos) (pins : List (Addr × Obj)) (s : Shared), Inv X pins σ H s → wpAny (model X.prog X.w) X.A (evalAll ((backToKw pos (keywordEach kws X.env)).map (·.2))) (AP X pins σ Q) X.xe s
theorem pkW {kws : List Keyword} : PK X kws (tWk X kws) := ⟨fun pos pins s _ _ _ I h => h pos pins s I⟩
theorem tWk.of {kws : List Keyword} {t : TA} (p : PK X kws t) {σ : L2.St} {H : Hp} {Q : List V → Hp → Prop} (h : t σ H Q) : tWk X kws σ H Q := fun pos pins s I => p.run pos pins s σ H Q I h
inductive KwE (P : Pe) (W : WX) (X : Cx) (n : Nat) : List E → List Keyword → List Str → Prop
  | nil : KwE P W X n [] [] []
  | cons {e : E} {x : Expr} {nm : Str} {kp : Pos} {es : List E} {kws : List Keyword} {ks : List Str} : SndE P W X n e x → KwE P W X n es kws ks → KwE P W X n (e :: es) (⟨some nm, x, kp⟩ :: kws) (nm :: ks)
theorem snd_kws {ρ : Ev} {σ : L2.St} : ∀ {es : List E} {kws : List Keyword} {ks : List Str}, KwE P W X n es kws ks → ∀ (ι : Nat → Addr) (S : Hs) (H : Hp) (Q : List V → Hp → Prop), RH X.K P.G ι S H → RE X.K P.G ι S.n H ρ σ →
    Aft X.K P.G (RVsX X P) Q (fun c d H' => W c d σ H') ι S H (evL (fun e S => ev P n e ρ S) es S) → tWk X kws σ H Q
  | _, _, _, .nil => fun ι S H Q rh re h => tWk.of pk_nil (Aft.now (R := RVsX X P) h rh .nil)
  | _, _, _, .cons he hr => fun ι S H Q rh re h => by
    refine tWk.of (pk_cons peW pkW) ?_
    refine he ι S ρ σ H _ rh re (Aft.bind (Ra := RVg X P.G) h fun v S1 _ ι1 H1 w1 rh1 le1 r1 h1 => ?_)
    refine snd_kws hr ι1 S1 H1 _ rh1 (re.mono le1) (Aft.bind (Ra := RVsX X P) h1 fun vs S2 _ ι2 H2 w2 rh2 le2 r2 h2 => ?_)
    exact Aft.now (R := RVsX X P) h2 rh2 (.cons (r1.mono le2) r2)
theorem KwE.facts {es : List E} {kws : List Keyword} {ks : List Str} (h : KwE P W X n es kws ks) {env : Env} {pos : Pos} : (backToKw pos (keywordEach kws env)).all (·.1.isSome) = true ∧ (backToKw pos (keywordEach kws env)).filterMap (·.1) = ks ∧ (backToKw pos (keywordEach kws env)).any (·.1.isNone) = false := by
  induction h with
  | nil => exact ⟨rfl, rfl, rfl⟩
  | @cons e x nm kp es kws ks _ hr ih =>
    obtain ⟨h1, h2, h3⟩ := ih
    have e : backToKw pos (keywordEach (⟨some nm, x, kp⟩ :: kws) env) = (some nm, do let v ← eval x env; standAt pos; pure v) :: backToKw pos (keywordEach kws env) := rfl
    rw [e]
    exact ⟨by rw [List.all_cons, h1]; rfl, by rw [List.filterMap_cons]; show nm :: _ = _; rw [h2], by rw [List.any_cons, h3]; rfl⟩
theorem run_mkK {k : Nat} {C f : Addr} {fd : FuncData} {ps ks : List Str} {sp : Sp} {pins : List (Addr × Obj)} {σ : L2.St} {H : Hp} {s : Shared} {Q : VK} {us ws : List Value} {vs zs : List V} (M : Mk X.K C f)
    (F : FnG X.prog X.w X.K X.mg X.base (CX X.prog X.w) k f fd ps sp) (room : Room (k + 1) X.A) (gd : X.A.guards = some []) (bs : BdG X.K fd ps ks) (lk : zs.length = ks.length) (tk : Takes X W) (I : Inv X pins σ H s) (r : Vals vs us) (rz : Vals zs ws)
    (h : ∀ x dx, H x = none → H dx = none → dx ≠ x → sp (.ref x :: (vs ++ zs)) (upd (upd H dx (.own x)) x (.ins C dx [])) (fun v H2 => v = .non ∧ Q (.ref x) H2) fun c d H' => W c d σ H') :
    wpAny (model X.prog X.w) X.A (call (.ref C) us (ks.zip ws)) (EP X pins σ Q) X.xe s := by
  generalize hz : s.heap.objs.size = z
  have f1 : H z = none := I.hok.fresh (Nat.le_of_eq hz)
  have f2 : H (z + 1) = none := I.hok.fresh (Nat.le_succ_of_le (Nat.le_of_eq hz))
  have goal := h (z + 1) z f2 f1 (Nat.ne_of_lt (Nat.lt_succ_self z))
  have J := Inv.made (C := C) I
  rw [hz] at J
  have rr : Vals (V.ref (z + 1) :: (vs ++ zs)) (Value.ref (z + 1) :: (us ++ ws)) := .cons rfl (r.append rz)
  have len : (Value.ref (z + 1) :: (us ++ ws)).length = ps.length := rr.length.symm.trans (F.len _ _ _ _ goal)
  have bd := bs _ (Value.ref (z + 1) :: (us ++ ws)) J.kIn len
  have lw : ws.length = ks.length := rz.length.symm.trans lk
  have e1 : ps.length - ks.length = (Value.ref (z + 1) :: us).length := by
    rw [← len, ← lw]
    simp only [List.length_cons, List.length_append]
    omega
  have e2 : (Value.ref (z + 1) :: (us ++ ws)).take (ps.length - ks.length) = Value.ref (z + 1) :: us := by
    rw [e1]
    show ((Value.ref (z + 1) :: us) ++ ws).take (Value.ref (z + 1) :: us).length = _
    rw [List.take_left]
  have e3 : (Value.ref (z + 1) :: (us ++ ws)).drop (ps.length - ks.length) = ws := by
    rw [e1]
    show ((Value.ref (z + 1) :: us) ++ ws).drop (Value.ref (z + 1) :: us).length = _
    rw [List.drop_left]
  rw [e2, e3] at bd
  have run := F.run _ X.stack _ _ ⟨Value.ref (z + 1) :: us, ks.zip ws⟩ (Value.ref (z + 1) :: (us ++ ws)) _ _ _ (room.make C us (ks.zip ws)) (make_guards.trans gd) (J.env0.make C us (ks.zip ws)) bd rr goal
  subst hz
  refine wpAny_call (make_map (f := f) I.kIn M.makes M.init (beq_iff_eq.mp M.fn) (codeAny_mono run fun res s' t => ?_))
  match res, t with
  | .error e, t => exact tk e s' (XE.of_call J (fun _ _ _ y => y) t)
  | .ok (.ret u), t =>
    obtain ⟨v, H', J3, rv, ev, q3⟩ := J.after t
    cases ev
    exact ⟨rv, ⟨V.ref (s.heap.objs.size + 1), H', J3, rfl, q3⟩⟩
  | .ok .next, t => exact t.elim
  | .ok .brk, t => exact t.elim
  | .ok .cont, t => exact t.elim
theorem snd_makeK (g : Good P d W X) {k : Nat} {cl : Cl} {es ke : List E} {y : Expr} {ys : List Expr} {kws : List Keyword} {p : Pos} (hk : P.G.cls[k]? = some cl) {i : Nat} (hi : cl.ini = some i) (hkw : KwE P W X n ke kws (kwOf P.G i)) (hg : Gl X cl.name) (h1 : (cl.name == ("__debug__" : Str)) = false)
    (ha : All2 (SndE P W X n) es (y :: ys)) (hs : (y :: ys).all (fun x => !isStarX x) = true) : SndE P W X (n + 1) (.make k es ke) (.Call (.Name cl.name p) (y :: ys) kws pos) := fun ι S ρ σ H Q rh re h => by
  have h0 : Aft X.K P.G (RVg X P.G) Q (fun c d H' => W c d σ H') ι S H ((evL (fun e S => ev P n e ρ S) es S).bind fun vs S1 => (evL (fun e S => ev P n e ρ S) ke S1).bind fun ws S2 => (match P.G.cls[k]? with
      | some c => (match c.ini with
        | some i => (P.C i (.ref S2.n :: (vs ++ ws)) (S2.push (.ins k []))).bind fun r S3 => if isNon r then .ok (.ref S2.n) S3 else .bad
        | none => .bad)
      | none => .bad)) := h
  simp only [hk, hi] at h0
  obtain ⟨fa, hfa, M⟩ := g.mf.mkf k i cl hk hi
  obtain ⟨fd, ps, F, hb, kp⟩ := g.mf.fn i fa hfa
  obtain ⟨k1, k2, k3⟩ := hkw.facts (env := X.env) (pos := pos)
  have hs' := hs
  rw [List.all_cons, Bool.and_eq_true] at hs'
  have e1 := starEach_cons (env := X.env) (xs := ys) (x := y) (by simpa using hs'.1)
  have e2 : (backTo pos (starEach (y :: ys) X.env)).any (·.1) = false := noStars hs
  intro pins s I
  refine wpAny_Call_Name_kw (ld_glob I hg (g.mf.clg k cl hk) ?_ h1)
  refine PySem.W.callWith_KW (h₀ := X.base) I.ok.mod.kin M.kp k1 (thn ((snd_args ha hs ι S H (fun vs H1 => tWk X kws σ H1 fun zs H2 => zs.length = (kwOf P.G i).length ∧ ∀ x dx, H2 x = none → H2 dx = none → dx ≠ x → spC X.K P i (.ref x :: (vs ++ zs)) (upd (upd H2 dx (.own x)) x (.ins (He.ga X.K cl.name) dx [])) (fun v H2 => v = .non ∧ Q (.ref x) H2) fun c d H' => W c d σ H') rh re
      (Aft.bind (Ra := RVsX X P) h0 fun vs S1 _ ι1 H1 ws rh1 le1 r1 h2 => ?_)) pos pins s I) fun us s1 ⟨vs, H1, I1, r, q⟩ => ?_) (by rw [e2, k3]; rfl) e1
  · refine snd_kws hkw ι1 S1 H1 _ rh1 (re.mono le1) (Aft.bind (Ra := RVsX X P) h2 fun zs S2 ez ι2 H2 ws2 rh2 le2 r2 h3 => ⟨?_, ?_⟩)
    · have q1 := r2.length
      have q2 := evL_len ez
      have q3 : ∀ {es : List E} {kws : List Keyword} {ks : List Str}, KwE P W X n es kws ks → es.length = ks.length := by
        intro es kws ks z
        induction z with
        | nil => rfl
        | cons _ _ ih => rw [List.length_cons, List.length_cons, ih]
      rw [← q1, q2, q3 hkw]
    · intro x dx fx fd' ne
      have lA : Le X.K ι2 S2.n H2 ι2 S2.n (upd H2 dx (.own x)) := Le.new fd'
      have rhA := rh2.off (u := .own x) fd'
      have fx' : upd H2 dx (.own x) x = none := by rw [upd_ne (Ne.symm ne)]; exact fx
      have rhB := rhA.push (o := .ins k []) (u := .ins (He.ga X.K cl.name) dx []) fx' (.ins hk .nil)
      have lB : Le X.K ι2 S2.n (upd H2 dx (.own x)) (ext ι2 S2.n x) (S2.push (.ins k [])).n (upd (upd H2 dx (.own x)) x (.ins (He.ga X.K cl.name) dx [])) := Le.push (S := S2) fx'
      have le := lA.trans lB
      have rx : RV X.K P.G (ext ι2 S2.n x) (S2.push (.ins k [])).n (upd (upd H2 dx (.own x)) x (.ins (He.ga X.K cl.name) dx [])) (.ref S2.n) (.ref x) := by
        have q := RV.ref (K := X.K) (G := P.G) (ι := ext ι2 S2.n x) (m := (S2.push (.ins k [])).n) (H := upd (upd H2 dx (.own x)) x (.ins (He.ga X.K cl.name) dx [])) (n := S2.n) (by rw [Hs.push_n]; omega)
        rw [ext_new] at q
        exact q
      refine ⟨ext ι2 S2.n x, S2.push (.ins k []), .ref S2.n :: (vs ++ zs), rhB, .cons rx (((r1.mono le2).append r2).mono le), ?_⟩
      refine Aft.bind (Ra := RVg X P.G) (Aft.shift h3 le) fun v S3 _ ι3 H3 w3 rh3 le3 r3 h5 => ?_
      cases r3 with
      | non => exact ⟨rfl, Aft.now (R := RVg X P.G) h5 rh3 (rx.mono le3)⟩
      | _ => exact h5.elim
  · refine thn (q pos pins s1 I1) fun ws s2 ⟨zs, H2, I2, rz, l2, q2⟩ => ⟨I2.kIn, ?_⟩
    rw [k2]
    exact run_mkK M F g.room g.gd hb l2 g.tk I2 r rz q2
end
end Ab

namespace Ab
open PySem L2
structure Ct where
  G : Gx
  sc : Scope
  N : List Str
  top : Bool
  cl : List Str
structure Fit (c : Ct) (C : Nat → List AV → Hs → Rs AV) (d : Nat) (W : WX) (X : Cx) : Prop where
  good : Good ⟨c.G, C⟩ d W X
  n : X.N = c.N
  s : X.env.scope = c.sc
  f : c.top = true → ∀ x ∈ c.N, X.fn x = true
  fc : ∀ x ∈ c.cl, X.fn x = true
abbrev CE (c : Ct) (x : Expr) := {e : E // ∀ C d W X n, Fit c C d W X → SndE ⟨c.G, C⟩ W X n e x}
abbrev CT (c : Ct) (x : Expr) := {e : E // ∀ C d W X n, Fit c C d W X → SndT ⟨c.G, C⟩ W X n e x}
abbrev CW (c : Ct) (x : Expr) := {e : E // ∀ C d W X n, Fit c C d W X → SndW ⟨c.G, C⟩ W X n e x}
abbrev CEs (c : Ct) (x : List Expr) := {e : List E // ∀ C d W X n, Fit c C d W X → All2 (SndE ⟨c.G, C⟩ W X n) e x}
abbrev CIs (c : Ct) (x : List Expr) := {e : List E // ∀ C d W X n, Fit c C d W X → All2 (SndS ⟨c.G, C⟩ W X n) e x}
abbrev CO (c : Ct) (x : Option Expr) := {e : Option E // ∀ C d W X n, Fit c C d W X → SndO ⟨c.G, C⟩ W X n e x}
abbrev CI (c : Ct) (tg iter : Expr) := {s : Src // ∀ C d W X n, Fit c C d W X → SndI ⟨c.G, C⟩ W X n s tg iter}
abbrev CG (c : Ct) (x : Expr) := {t : Tg // ∀ C d W X n m, Fit c C d W X → SndG ⟨c.G, C⟩ W X n m t x}
abbrev CGs (c : Ct) (x : List Expr) := {t : List Tg // ∀ C d W X n m, Fit c C d W X → All2 (SndG ⟨c.G, C⟩ W X n m) t x}
abbrev CS (c : Ct) (x : Stmt) := {s : St // ∀ C d W X n, Fit c C d W X → SndSt ⟨c.G, C⟩ W X n s x}
abbrev CSs (c : Ct) (x : List Stmt) := {s : List St // ∀ C d W X n, Fit c C d W X → SndSs ⟨c.G, C⟩ W X n s x}
theorem snd_bad {P : Pe} {W : WX} {X : Cx} {n : Nat} {x : Expr} : SndE P W X n .bad x := by
  cases n with
  | zero => exact snd_zero
  | succ n => exact fun _ _ _ _ _ _ _ _ h => h.elim
theorem snt_bad {P : Pe} {W : WX} {X : Cx} {n : Nat} {x : Expr} : SndT P W X n .bad x := by
  cases n with
  | zero => exact fun _ _ _ _ _ _ _ _ h => h.elim
  | succ n => exact fun _ _ _ _ _ _ _ _ h => h.elim
theorem snw_bad {P : Pe} {W : WX} {X : Cx} {n : Nat} {x : Expr} : SndW P W X n .bad x := by
  cases n with
  | zero => exact fun _ _ _ _ _ _ _ _ h => h.elim
  | succ n => exact fun _ _ _ _ _ _ _ _ h => h.elim
theorem snt_zero {P : Pe} {W : WX} {X : Cx} {e : E} {x : Expr} : SndT P W X 0 e x := fun _ _ _ _ _ _ _ _ h => h.elim
theorem snw_zero {P : Pe} {W : WX} {X : Cx} {e : E} {x : Expr} : SndW P W X 0 e x := fun _ _ _ _ _ _ _ _ h => h.elim
theorem sng_zero {P : Pe} {W : WX} {X : Cx} {n : Nat} {t : Tg} {x : Expr} : SndG P W X n 0 t x := fun _ _ _ _ _ _ _ _ _ _ _ h => h.elim
theorem snst_bad {P : Pe} {W : WX} {X : Cx} {n : Nat} {x : Stmt} : SndSt P W X n .bad x := by
  cases n with
  | zero => exact snst_zero
  | succ n => exact fun _ _ _ _ _ _ _ _ h => h.elim
theorem sni_bad {P : Pe} {W : WX} {X : Cx} {n : Nat} {tg x : Expr} : SndI P W X n (.e .bad) tg x := by
  cases n with
  | zero => exact fun _ _ _ _ _ _ _ _ h => h.elim
  | succ n => exact fun _ _ _ _ _ _ _ _ h => h.elim
section
variable {c : Ct}
def badE (x : Expr) : CE c x := ⟨.bad, fun _ _ _ _ _ _ => snd_bad⟩
def badT (x : Expr) : CT c x := ⟨.bad, fun _ _ _ _ _ _ => snt_bad⟩
def badW (x : Expr) : CW c x := ⟨.bad, fun _ _ _ _ _ _ => snw_bad⟩
def badS (x : Stmt) : CS c x := ⟨.bad, fun _ _ _ _ _ _ => snst_bad⟩
def badI (tg x : Expr) : CI c tg x := ⟨.e .bad, fun _ _ _ _ _ _ => sni_bad⟩
def mkE {x : Expr} (e : E) (h : ∀ C d W X n, Fit c C d W X → SndE ⟨c.G, C⟩ W X (n + 1) e x) : CE c x := ⟨e, fun C d W X n f => match n with
  | 0 => snd_zero
  | n + 1 => h C d W X n f⟩
def mkT {x : Expr} (e : E) (h : ∀ C d W X n, Fit c C d W X → SndT ⟨c.G, C⟩ W X (n + 1) e x) : CT c x := ⟨e, fun C d W X n f => match n with
  | 0 => snt_zero
  | n + 1 => h C d W X n f⟩
def mkW {x : Expr} (e : E) (h : ∀ C d W X n, Fit c C d W X → SndW ⟨c.G, C⟩ W X (n + 1) e x) : CW c x := ⟨e, fun C d W X n f => match n with
  | 0 => snw_zero
  | n + 1 => h C d W X n f⟩
def mkS {x : Stmt} (e : St) (h : ∀ C d W X n, Fit c C d W X → SndSt ⟨c.G, C⟩ W X (n + 1) e x) : CS c x := ⟨e, fun C d W X n f => match n with
  | 0 => snst_zero
  | n + 1 => h C d W X n f⟩
def mkG {x : Expr} (t : Tg) (h : ∀ C d W X n m, Fit c C d W X → SndG ⟨c.G, C⟩ W X n (m + 1) t x) : CG c x := ⟨t, fun C d W X n m f => match m with
  | 0 => sng_zero
  | m + 1 => h C d W X n m f⟩
def cEs (f : (x : Expr) → CE c x) : (xs : List Expr) → CEs c xs
  | [] => ⟨[], fun _ _ _ _ _ _ => .nil⟩
  | x :: xs => ⟨(f x).1 :: (cEs f xs).1, fun C d W X n h => .cons ((f x).2 C d W X n h) ((cEs f xs).2 C d W X n h)⟩
theorem sndS_star {P : Pe} {W : WX} {X : Cx} {n : Nat} {e : E} {y : Expr} {p : Pos} (h : SndE P W X n e y) : SndS P W X n (.star e) (.Starred y p) := ⟨y, p, rfl, h⟩
theorem sndS_one {P : Pe} {W : WX} {X : Cx} {n : Nat} {e : E} {x : Expr} (he : (isStar e).isNone = true) (hs : isStarX x = false) (h : SndE P W X n e x) : SndS P W X n e x := by
  unfold SndS
  cases q : isStar e with
  | none => exact ⟨hs, h⟩
  | some _ => rw [q] at he; cases he
/-- an item -/
def cItem (f : (x : Expr) → CE c x) (x : Expr) : {e : E // ∀ C d W X n, Fit c C d W X → SndS ⟨c.G, C⟩ W X n e x} ⊕' Unit := match x with
  | .Starred y p => .inl ⟨.star (f y).1, fun C d W X n h => sndS_star ((f y).2 C d W X n h)⟩
  | x => if h : (isStar (f x).1).isNone = true ∧ isStarX x = false then .inl ⟨(f x).1, fun C d W X n t => sndS_one h.1 h.2 ((f x).2 C d W X n t)⟩ else .inr ()
def cItems (f : (x : Expr) → CE c x) : (xs : List Expr) → CIs c xs ⊕' Unit
  | [] => .inl ⟨[], fun _ _ _ _ _ _ => .nil⟩
  | x :: xs => match cItem f x, cItems f xs with
    | .inl a, .inl b => .inl ⟨a.1 :: b.1, fun C d W X n h => .cons (a.2 C d W X n h) (b.2 C d W X n h)⟩
    | _, _ => .inr ()
def cO (f : (x : Expr) → CE c x) : (x : Option Expr) → CO c x
  | none => ⟨none, fun _ _ _ _ _ _ => trivial⟩
  | some x => ⟨some (f x).1, fun C d W X n h => (f x).2 C d W X n h⟩
def ixOf (l : List Str) (x : Str) : Nat := l.findIdx fun y => decide (y = x)
instance {sc : Scope} {x : Str} : Decidable (Vis sc x) := by unfold Vis; infer_instance
instance {sc : Scope} {x : Str} : Decidable (L2.Loc sc x) := by unfold L2.Loc; infer_instance
def cGlob (x : Str) (pos : Pos) : CE c (.Name x pos) :=
  if hg : c.sc.names.lookup x = some .globalImplicit ∧ (x == ("__debug__" : Str)) = false then
    let k := c.G.cons.findIdx fun y => decide (y.1 = x)
    match hk : c.G.cons[k]? with
    | some y => if h : y.1 = x then mkE (.gc k) fun C d W X n f => snd_gc f.good.mf (v := y.2) (by rw [← h]; exact hk) (by unfold Gl Env.kindOf; rw [f.s]; exact hg.1) hg.2 else badE _
    | none =>
      let k := c.G.fns.findIdx fun y => decide (y = (x, none))
      if h : c.G.fns[k]? = some (x, none) then mkE (.gf k) fun C d W X n f => snd_gf f.good.mf h (by unfold Gl Env.kindOf; rw [f.s]; exact hg.1) hg.2 else
      let k := c.G.cls.findIdx fun y => decide (y.name = x)
      match hk : c.G.cls[k]? with
      | some y => if h : y.name = x then mkE (.gk k) fun C d W X n f => h ▸ snd_gk f.good.mf hk (by unfold Gl Env.kindOf; rw [f.s, h]; exact hg.1) (by rw [h]; exact hg.2) else badE _
      | none => badE _
  else badE _
def cName (x : Str) (pos : Pos) : CE c (.Name x pos) :=
  let i := ixOf c.N x
  if h : c.N[i]? = some x ∧ Vis c.sc x ∧ (x == ("__debug__" : Str)) = false ∧ (x == ("__classdict__" : Str)) = false then
    mkE (.var i) fun C d W X n f => snd_var (by rw [f.n]; exact h.1) (by rw [f.s]; exact h.2.1) h.2.2.1 h.2.2.2
  else cGlob x pos
def cConst : (k : Const) → (j : Nat) → (pos : Pos) → CE c (.Constant k j pos)
  | .none, j, pos => mkE (.cst .non) fun C d W X n f => snd_cst fun ι m H => ⟨.non, .non, pe_non⟩
  | .bool b, j, pos => mkE (.cst (.bl b)) fun C d W X n f => snd_cst fun ι m H => ⟨.bl b, .bl b, pe_bl⟩
  | .int b, j, pos => mkE (.cst (.int b)) fun C d W X n f => snd_cst fun ι m H => ⟨.int b, .int b, pe_int⟩
  | .str b, j, pos => mkE (.cst (.str b)) fun C d W X n f => snd_cst fun ι m H => ⟨.str b, .str b, pe_str⟩
  | _, _, _ => badE _
def bfT : List (Str × Bf) := [("len", .len), ("all", .all), ("any", .any), ("sum", .sum), ("tuple", .tuple), ("list", .list), ("int", .int), ("max", .max), ("min", .min), ("repr", .repr), ("str", .str), ("sorted", .sorted), ("dict", .dict), ("abs", .abs)]
theorem bfT_ok : ∀ p ∈ bfT, p.1 ∈ bltN ∧ bootBuiltins p.1 = some (bfV p.2) ∧ (p.1 == ("__debug__" : Str)) = false ∧ p.1 ≠ "__name__" ∧ bfOk p.2 = true := by decide +kernel
def tyT : List (Str × Bty) := [("bool", .bool), ("int", .int), ("str", .str), ("tuple", .tuple), ("list", .list), ("dict", .dict), ("ValueError", .verr), ("LookupError", .lerr)]
theorem tyT_ok : ∀ p ∈ tyT, p.1 ∈ bltN ∧ bootBuiltins p.1 = some (.type (btyN p.2)) ∧ (p.1 == ("__debug__" : Str)) = false ∧ p.1 ≠ "__name__" := by decide +kernel
def bmT : List (Str × Bm) := [("append", .append), ("pop", .pop), ("index", .index), ("extend", .extend), ("clear", .clear), ("join", .join), ("get", .get), ("items", .items), ("keys", .keys), ("values", .values), ("update", .update)]
theorem bmT_ok : ∀ p ∈ bmT, bmN p.2 = p.1 := by decide +kernel
def bmOf (x : Str) : {b : Option Bm // ∀ m, b = some m → bmN m = x} :=
  match hk : bmT[bmT.findIdx fun y => decide (y.1 = x)]? with
  | some p => if h : p.1 = x then ⟨some p.2, fun m e => by cases e; rw [← h]; exact bmT_ok p (List.mem_of_getElem? hk)⟩ else ⟨none, fun _ e => nomatch e⟩
  | none => ⟨none, fun _ e => nomatch e⟩
/-- a class named -/
def cTy (x : Expr) : {t : Ty // ∀ C d W X, Fit c C d W X → TyE ⟨c.G, C⟩ X t x} ⊕' Unit := match x with
  | .Name x pos =>
    if hg : c.sc.names.lookup x = some .globalImplicit ∧ (x == ("__debug__" : Str)) = false then
      match hk : tyT[tyT.findIdx fun y => decide (y.1 = x)]? with
      | some p => if h : p.1 = x then .inl ⟨.b p.2, fun C d W X f => by
          obtain ⟨h1, h2, h3, h4⟩ := tyT_ok p (List.mem_of_getElem? hk)
          subst h
          exact ⟨rfl, .ty (btyN p.2), pe_bltn (by unfold Gl Env.kindOf; rw [f.s]; exact hg.1) (f.good.mf.free _ h1) h2 rfl h4 h3, ClsV.ty _⟩⟩ else .inr ()
      | none =>
        let k := c.G.cls.findIdx fun y => decide (y.name = x)
        match hk : c.G.cls[k]? with
        | some y => if h : y.name = x then .inl ⟨.c k, fun C d W X f => by
            subst h
            refine ⟨rfl, .ref (He.ga X.K y.name), pe_glob (by unfold Gl Env.kindOf; rw [f.s]; exact hg.1) (f.good.mf.clg k y hk) rfl hg.2, ?_⟩
            have e : tyVal X.K c.G (.c k) = .ref (He.ga X.K y.name) := by
              show (match c.G.cls[k]? with | some c => Value.ref (He.ga X.K c.name) | none => .none) = _
              rw [hk]
            rw [e]
            exact ClsV.own _⟩ else .inr ()
        | none => .inr ()
    else .inr ()
  | _ => .inr ()
def cTys : (xs : List Expr) → {ts : List Ty // ∀ C d W X, Fit c C d W X → All2 (TyE ⟨c.G, C⟩ X) ts xs} ⊕' Unit
  | [] => .inl ⟨[], fun _ _ _ _ _ => .nil⟩
  | x :: xs => match cTy (c := c) x, cTys xs with
    | .inl a, .inl b => .inl ⟨a.1 :: b.1, fun C d W X f => .cons (a.2 C d W X f) (b.2 C d W X f)⟩
    | _, _ => .inr ()
def relS (scope sc : Scope) : Scope := { scope with names := scope.names.map fun (n, k) => if (k == .free && sc.kind == .function && sc.names.lookup n == some .cell) then (n, .cell) else (n, k) }
def Ct.blk (c : Ct) (scope : Scope) : Ct := ⟨c.G, relS scope c.sc, c.N, false, (scope.names.map (·.1)).filter fun x => scope.names.lookup x == some .cell⟩
theorem Fit.blk {C : Nat → List AV → Hs → Rs AV} {d : Nat} {W : WX} {X : Cx} (f : Fit c C d W X) (scope : Scope) (s : Shared) (H : Hp) (D : Addr) (cl : List (Str × Addr)) (fp : List Addr) : Fit (c.blk scope) C d W0 (blkX X scope s H D cl fp) :=
  ⟨f.good.blk scope s H D cl fp, f.n, by
    show relabel scope X.env = relS scope c.sc
    rw [← f.s]; rfl, (fun h => nomatch h), fun x hx => (List.mem_filter.mp hx).2⟩
def ownOf (N : List Str) (scope : Scope) : List (Str × Nat) := scope.names.filterMap fun y => if (y.2 == .local || y.2 == .cell) && decide (N[ixOf N y.1]? = some y.1) then some (y.1, ixOf N y.1) else none
def blkOk (N : List Str) (sc scope : Scope) : Bool := decide (scope.kind = .function) && scope.names.all (fun y => decide (scope.names.lookup y.1 = some y.2)) && (ownOf N scope).all (fun p => decide (N[p.2]? = some p.1)) &&
  scope.names.all (fun y => y.2 != .free || decide (sc.names.lookup y.1 = some .cell) || decide (sc.names.lookup y.1 = some .free)) && scope.names.all (fun y => !(y.2 == .local || y.2 == .cell) || decide (y.1 ∈ (ownOf N scope).map (·.1)) || decide (y.1 ∉ N))
theorem blkOk_ok {N : List Str} {sc scope : Scope} (h : blkOk N sc scope = true) : BlkOk N sc scope (ownOf N scope) := by
  unfold blkOk at h
  rw [Bool.and_eq_true, Bool.and_eq_true, Bool.and_eq_true, Bool.and_eq_true] at h
  obtain ⟨⟨⟨⟨h1, h2⟩, h3⟩, h4⟩, h5⟩ := h
  refine ⟨of_decide_eq_true h1, fun y hy => of_decide_eq_true (List.all_eq_true.mp h2 y hy), fun p hp => of_decide_eq_true (List.all_eq_true.mp h3 p hp), fun y hy e => ?_, fun y hy e => ?_⟩
  · have q := List.all_eq_true.mp h4 y hy
    rw [e, Bool.or_eq_true, Bool.or_eq_true] at q
    rcases q with (q | q) | q
    · exact absurd q (by decide)
    · exact .inl (of_decide_eq_true q)
    · exact .inr (of_decide_eq_true q)
  · have q := List.all_eq_true.mp h5 y hy
    rw [Bool.or_eq_true, Bool.or_eq_true] at q
    rcases q with (q | q) | q
    · rcases e with e | e <;> rw [e] at q <;> exact absurd q (by decide)
    · exact .inl (of_decide_eq_true q)
    · exact .inr (of_decide_eq_true q)
/-- a comprehension's target -/
def cNmE (x : Expr) : {t : Tg // ∀ C d W X, Fit c C d W X → NmE X t x} ⊕' Unit := match x with
  | .Name x pos => if h : c.N[ixOf c.N x]? = some x ∧ c.sc.names.lookup x = some .local then .inl ⟨.nm (ixOf c.N x), fun C d W X f => ⟨_, _, _, rfl, rfl, by rw [f.n]; exact h.1, .inl (by rw [f.s]; exact h.2), .inr (by rw [f.s]; exact h.2)⟩⟩
    else if h : c.N[ixOf c.N x]? = some x ∧ c.sc.names.lookup x = some .cell ∧ x ∈ c.cl then .inl ⟨.nm (ixOf c.N x), fun C d W X f => ⟨_, _, _, rfl, rfl, by rw [f.n]; exact h.1, .inr (by rw [f.s]; exact h.2.1), .inl (f.fc x h.2.2)⟩⟩ else .inr ()
  | _ => .inr ()
def cNmEs : (xs : List Expr) → {t : List Tg // ∀ C d W X, Fit c C d W X → All2 (NmE X) t xs} ⊕' Unit
  | [] => .inl ⟨[], fun _ _ _ _ _ => .nil⟩
  | x :: xs => match cNmE (c := c) x, cNmEs xs with
    | .inl a, .inl b => .inl ⟨a.1 :: b.1, fun C d W X f => .cons (a.2 C d W X f) (b.2 C d W X f)⟩
    | _, _ => .inr ()
def cCT (own : List Nat) (x : Expr) : {t : Tg // ∀ C d W X, Fit c C d W X → SndC ⟨c.G, C⟩ X own t x} ⊕' Unit := match x with
  | .Name x pos => (match cNmE (c := c) (.Name x pos) with
    | .inl a => .inl ⟨a.1, fun C d W X f => by
      obtain ⟨i, y, p, e1, e2, h1, h2, h3⟩ := a.2 C d W X f
      rw [e1, e2]
      exact snc_nm f.good h1 h2 h3⟩
    | .inr _ => .inr ())
  | .Tuple xs k pos => (match cNmEs (c := c) xs with
    | .inl a => .inl ⟨.tp a.1, fun C d W X f => snc_tp f.good (a.2 C d W X f)⟩
    | .inr _ => .inr ())
  | _ => .inr ()
def noSet : Expr → Bool
  | .Set .. => false
  | _ => true
theorem noSet_ok {iter : Expr} (h : noSet iter = true) (env : Env) (x : Value) : foldedSetIterable iter env x = pure x := by
  cases iter <;> first | rfl | cases h
def plainT' : Expr → Bool
  | .UnaryOp .Not .. => false
  | .BoolOp .. => false
  | .IfExp .. => false
  | .Compare .. => false
  | _ => true
theorem plainT_ok {x : Expr} (h : plainT' x = true) (env : Env) (whole : Sem Value) : isTrue x env whole = (do let v ← whole; standAt x.pos; holding [v] (truthy v)) := by
  cases x with
  | UnaryOp op _ _ => cases op <;> first | rfl | cases h
  | BoolOp _ _ _ => cases h
  | IfExp _ _ _ _ => cases h
  | Compare _ _ _ _ => cases h
  | _ => rfl
theorem noSl_ok {x : Expr} (h : noSl x = true) : NoSl x := fun o i => by
  cases x <;> first | rfl | cases h
end
end Ab

namespace Ab
open PySem L2
section
variable {c : Ct}
def cAnd (f : (x : Expr) → CE c x) : (xs : List Expr) → (pos : Pos) → CE c (.BoolOp .And xs pos)
  | [], _ => badE _
  | [x], _ => ⟨(f x).1, fun C d W X n h => snd_one ((f x).2 C d W X n h)⟩
  | x :: y :: r, pos => mkE (.and (f x).1 (cAnd f (y :: r) pos).1) fun C d W X n h => snd_and ((f x).2 C d W X n h) ((cAnd f (y :: r) pos).2 C d W X n h)
def cOr (f : (x : Expr) → CE c x) : (xs : List Expr) → (pos : Pos) → CE c (.BoolOp .Or xs pos)
  | [], _ => badE _
  | [x], _ => ⟨(f x).1, fun C d W X n h => snd_one ((f x).2 C d W X n h)⟩
  | x :: y :: r, pos => mkE (.or (f x).1 (cOr f (y :: r) pos).1) fun C d W X n h => snd_or ((f x).2 C d W X n h) ((cOr f (y :: r) pos).2 C d W X n h)
def cWAnd (f : (x : Expr) → CT c x) : (xs : List Expr) → (pos : Pos) → CW c (.BoolOp .And xs pos)
  | [], _ => badW _
  | [x], _ => ⟨(f x).1, fun C d W X n h => snw_one_and ((f x).2 C d W X n h)⟩
  | x :: y :: r, pos => mkW (.and (f x).1 (cWAnd f (y :: r) pos).1) fun C d W X n h => snw_and ((f x).2 C d W X n h) ((cWAnd f (y :: r) pos).2 C d W X n h)
def cWOr (f : (x : Expr) → CT c x) : (xs : List Expr) → (pos : Pos) → CW c (.BoolOp .Or xs pos)
  | [], _ => badW _
  | [x], _ => ⟨(f x).1, fun C d W X n h => snw_one_or ((f x).2 C d W X n h)⟩
  | x :: y :: r, pos => mkW (.or (f x).1 (cWOr f (y :: r) pos).1) fun C d W X n h => snw_or ((f x).2 C d W X n h) ((cWOr f (y :: r) pos).2 C d W X n h)
def cTs (f : (x : Expr) → CT c x) : (xs : List Expr) → {es : List E // ∀ C d W X n, Fit c C d W X → SndTs ⟨c.G, C⟩ W X n es xs} ⊕' Unit
  | [] => .inl ⟨[], fun _ _ _ _ _ _ => trivial⟩
  | [x] => .inl ⟨[(f x).1], fun C d W X n h => (f x).2 C d W X n h⟩
  | _ => .inr ()
/-- calls of names -/
def cCallN (f : (x : Expr) → CE c x) (g : Str) (p : Pos) (xs : List Expr) (pos : Pos) : CE c (.Call (.Name g p) xs [] pos) :=
  if hg : c.sc.names.lookup g = some .globalImplicit ∧ (g == ("__debug__" : Str)) = false ∧ xs.all (fun x => !isStarX x) = true then
    let k := c.G.fns.findIdx fun y => decide (y = (g, none))
    if h : c.G.fns[k]? = some (g, none) ∧ kwOf c.G k = [] then mkE (.call k (cEs f xs).1) fun C d W X n t => snd_call t.good h.1 h.2 (by unfold Gl Env.kindOf; rw [t.s]; exact hg.1) hg.2.1 ((cEs f xs).2 C d W X n t) hg.2.2 else
    let k := c.G.cls.findIdx fun y => decide (y.name = g)
    if h : (match c.G.cls[k]? with
      | some y => decide (y.name = g) && (match y.ini with
        | some i => decide (kwOf c.G i = [])
        | none => false)
      | none => false) = true then mkE (.make k (cEs f xs).1 []) fun C d W X n t => by
        cases e : c.G.cls[k]? with
        | none => rw [e] at h; cases h
        | some y =>
          rw [e] at h
          have h' : (decide (y.name = g) && (match y.ini with
            | some i => decide (kwOf c.G i = [])
            | none => false)) = true := h
          rw [Bool.and_eq_true] at h'
          obtain ⟨h1, h2⟩ := h'
          have e1 := of_decide_eq_true h1
          subst e1
          cases hi : y.ini with
          | none => rw [hi] at h2; cases h2
          | some i =>
          rw [hi] at h2
          exact snd_make t.good e hi (of_decide_eq_true h2) (by unfold Gl Env.kindOf; rw [t.s]; exact hg.1) hg.2.1 ((cEs f xs).2 C d W X n t) hg.2.2
    else if h : (match c.G.cls[k]? with
      | some y => decide (y.name = g) && (y.xi.isSome && (decide (y.xb ≠ 0) && decide (xs.length ≤ 900)))
      | none => false) = true then mkE (.xmk k (cEs f xs).1) fun C d W X n t => by
        cases e : c.G.cls[k]? with
        | none => rw [e] at h; cases h
        | some y =>
          rw [e] at h
          have h' : (decide (y.name = g) && (y.xi.isSome && (decide (y.xb ≠ 0) && decide (xs.length ≤ 900)))) = true := h
          simp only [Bool.and_eq_true] at h'
          obtain ⟨h1, h2, h3, h4⟩ := h'
          have e1 := of_decide_eq_true h1
          subst e1
          obtain ⟨i, hi⟩ := Option.isSome_iff_exists.mp h2
          exact snd_xmk t.good e hi (of_decide_eq_true h3) (by unfold Gl Env.kindOf; rw [t.s]; exact hg.1) hg.2.1 ((cEs f xs).2 C d W X n t) hg.2.2 (of_decide_eq_true h4)
    else match xs, hg with
    | [.Call (.Name r p2) [a] [] pos2], hg => if h : g = "list" ∧ r = "range" ∧ isStarX a = false ∧ c.sc.names.lookup ("range" : Str) = some .globalImplicit then mkE (.blt .lrng [(f a).1]) fun C d W X n t => by
        obtain ⟨rfl, rfl, h3, h4⟩ := h
        exact snd_lrng t.good ((f a).2 C d W X n t) h3 (by unfold Gl Env.kindOf; rw [t.s]; exact hg.1) (by unfold Gl Env.kindOf; rw [t.s]; exact h4)
      else if h : g = "len" ∧ r = "set" ∧ isStarX a = false ∧ c.sc.names.lookup ("set" : Str) = some .globalImplicit then mkE (.blt .lenset [(f a).1]) fun C d W X n t => by
        obtain ⟨rfl, rfl, h3, h4⟩ := h
        exact snd_lenset t.good ((f a).2 C d W X n t) h3 (by unfold Gl Env.kindOf; rw [t.s]; exact hg.1) (by unfold Gl Env.kindOf; rw [t.s]; exact h4)
      else (match hk : bfT[bfT.findIdx fun y => decide (y.1 = g)]? with
      | some q => if h : q.1 = g then mkE (.blt q.2 (cEs f [.Call (.Name r p2) [a] [] pos2]).1) fun C d W X n t => by
          subst h
          obtain ⟨h1, h2, h3, h4, h5⟩ := bfT_ok q (List.mem_of_getElem? hk)
          exact snd_blt t.good h1 h2 (by unfold Gl Env.kindOf; rw [t.s]; exact hg.1) h3 h4 ((cEs f [.Call (.Name r p2) [a] [] pos2]).2 C d W X n t) hg.2.2 h5 else badE _
      | none => badE _)
    | [a, .Tuple ts j p2], hg => if h : g = "isinstance" ∧ ts.length ≤ 10 then (match cTys (c := c) ts with
      | .inl tt => mkE (.isi (f a).1 true tt.1) fun C d W X n t => by
          obtain ⟨rfl, hl⟩ := h
          have q := tt.2 C d W X t
          refine snd_isiT t.good ((f a).2 C d W X n t) (by have := hg.2.2; simp at this; exact this.1) q ?_ (by unfold Gl Env.kindOf; rw [t.s]; exact hg.1)
          have ll : ∀ {as : List Ty} {bs : List Expr}, All2 (TyE ⟨c.G, C⟩ X) as bs → as.length = bs.length := by
            intro as bs z
            induction z with
            | nil => rfl
            | cons _ _ ih => rw [List.length_cons, List.length_cons, ih]
          rw [ll q]; exact hl
      | .inr _ => badE _) else badE _
    | [a, y], hg => if h : g = "isinstance" then (match cTy (c := c) y with
      | .inl tt => mkE (.isi (f a).1 false [tt.1]) fun C d W X n t => by
          subst h
          exact snd_isi1 t.good ((f a).2 C d W X n t) (by have := hg.2.2; simp at this; exact this.1) (tt.2 C d W X t) (by unfold Gl Env.kindOf; rw [t.s]; exact hg.1)
      | .inr _ => badE _)
      else (match hk : bfT[bfT.findIdx fun y => decide (y.1 = g)]? with
      | some q => if h : q.1 = g then mkE (.blt q.2 (cEs f [a, y]).1) fun C d W X n t => by
          subst h
          obtain ⟨h1, h2, h3, h4, h5⟩ := bfT_ok q (List.mem_of_getElem? hk)
          exact snd_blt t.good h1 h2 (by unfold Gl Env.kindOf; rw [t.s]; exact hg.1) h3 h4 ((cEs f [a, y]).2 C d W X n t) hg.2.2 h5 else badE _
      | none => badE _)
    | a :: ys, hg => (match hk : bfT[bfT.findIdx fun y => decide (y.1 = g)]? with
      | some q => if h : q.1 = g then mkE (.blt q.2 (cEs f (a :: ys)).1) fun C d W X n t => by
          subst h
          obtain ⟨h1, h2, h3, h4, h5⟩ := bfT_ok q (List.mem_of_getElem? hk)
          exact snd_blt t.good h1 h2 (by unfold Gl Env.kindOf; rw [t.s]; exact hg.1) h3 h4 ((cEs f (a :: ys)).2 C d W X n t) hg.2.2 h5 else badE _
      | none => badE _)
    | [], _ => badE _
  else badE _
/-- calls of methods -/
def cCallM (f : (x : Expr) → CE c x) (o : Expr) (m : Str) (ap : Pos) (xs : List Expr) (pos : Pos) : CE c (.Call (.Attribute o m ap) xs [] pos) :=
  let i := ixOf c.G.nms m
  if h : c.G.nms[i]? = some m ∧ xs.all (fun x => !isStarX x) = true ∧ abOk o = true ∧ xs.length < 30 ∧ (ap.endLine == pos.line) = true then
    mkE (.meth (f o).1 i (bmOf m).1 (cEs f xs).1) fun C d W X n t => snd_meth t.good ((f o).2 C d W X n t) h.1 ((cEs f xs).2 C d W X n t) h.2.1 (fun k j cl h1 h2 => t.good.mf.mth i k j m cl h.1 h1 h2) (bmOf m).2 h.2.2.1 h.2.2.2.1 h.2.2.2.2
  else badE _
/-- what is walked -/
def cI (f : (x : Expr) → CE c x) (tg : Expr) (x : Expr) : CI c tg x := match x with
  | .Call (.Name g p) [a] [] pos =>
    if h : g = "range" ∧ isStarX a = false ∧ c.sc.names.lookup ("range" : Str) = some .globalImplicit then ⟨.rng none (f a).1, fun C d W X n t => by
      obtain ⟨rfl, h2, h3⟩ := h
      exact sni_rng1 t.good ((f a).2 C d W X n t) h2 (by unfold Gl Env.kindOf; rw [t.s]; exact h3)⟩
    else if h : g = "enumerate" ∧ isStarX a = false ∧ c.sc.names.lookup ("enumerate" : Str) = some .globalImplicit then (match tg with
      | .Tuple elts kk tpos => ⟨.enm (f a).1, fun C d W X n t => by
        obtain ⟨rfl, h2, h3⟩ := h
        exact sni_enL t.good ((f a).2 C d W X n t) h2 (by unfold Gl Env.kindOf; rw [t.s]; exact h3)⟩
      | tg => badI _ _)
    else ⟨.e (f (.Call (.Name g p) [a] [] pos)).1, fun C d W X n t => sni_e ((f (.Call (.Name g p) [a] [] pos)).2 C d W X n t)⟩
  | .Call (.Name g p) [a, b] [] pos =>
    if h : g = "range" ∧ isStarX a = false ∧ isStarX b = false ∧ c.sc.names.lookup ("range" : Str) = some .globalImplicit then ⟨.rng (some (f a).1) (f b).1, fun C d W X n t => by
      obtain ⟨rfl, h2, h4, h3⟩ := h
      exact sni_rng2 t.good ((f a).2 C d W X n t) ((f b).2 C d W X n t) h2 h4 (by unfold Gl Env.kindOf; rw [t.s]; exact h3)⟩
    else ⟨.e (f (.Call (.Name g p) [a, b] [] pos)).1, fun C d W X n t => sni_e ((f (.Call (.Name g p) [a, b] [] pos)).2 C d W X n t)⟩
  | x => ⟨.e (f x).1, fun C d W X n t => sni_e ((f x).2 C d W X n t)⟩
def cUn (f : (x : Expr) → CE c x) (op : UnaryOp) (a : Expr) (pos : Pos) : CE c (.UnaryOp op a pos) := match op with
  | .Not => mkE (.not (f a).1) fun C d W X m t => snd_not ((f a).2 C d W X m t)
  | .USub => mkE (.neg (f a).1) fun C d W X m t => snd_neg ((f a).2 C d W X m t)
  | _ => badE _
def cCmp (f : (x : Expr) → CE c x) (a : Expr) (ops : List CmpOp) (bs : List Expr) (pos : Pos) : CE c (.Compare a ops bs pos) := match ops, bs with
  | [op], [b] => if h : behindInMarks op b = false then mkE (.cmp op (f a).1 (f b).1) fun C d W X m t => snd_cmp t.good ((f a).2 C d W X m t) ((f b).2 C d W X m t) h else badE _
  | [op, op'], [b, e] => if h : lastMarks [op, op'] [b, e] = false then mkE (.cmp2 op op' (f a).1 (f b).1 (f e).1) fun C d W X m t => snd_cmp2 t.good ((f a).2 C d W X m t) ((f b).2 C d W X m t) ((f e).2 C d W X m t) h else badE _
  | _, _ => badE _
def cCmpT (f : (x : Expr) → CE c x) (a : Expr) (ops : List CmpOp) (bs : List Expr) (pos : Pos) : CT c (.Compare a ops bs pos) := match ops, bs with
  | [op], [b] => if h : behindInMarks op b = false then mkT (.cmp op (f a).1 (f b).1) fun C d W X m t => snt_cmp t.good ((f a).2 C d W X m t) ((f b).2 C d W X m t) h else badT _
  | [op, op'], [b, e] => if h : lastMarks [op, op'] [b, e] = false then mkT (.cmp2 op op' (f a).1 (f b).1 (f e).1) fun C d W X m t => snt_cmp2 t.good ((f a).2 C d W X m t) ((f b).2 C d W X m t) ((f e).2 C d W X m t) h else badT _
  | _, _ => badT _
def cSub (f : (x : Expr) → CE c x) (a : Expr) (i : Expr) (pos : Pos) : CE c (.Subscript a i pos) := match i with
  | .Slice lo hi none p2 => mkE (.slc (f a).1 (cO f lo).1 (cO f hi).1) fun C d W X m t => snd_slc ((f a).2 C d W X m t) ((cO f lo).2 C d W X m t) ((cO f hi).2 C d W X m t)
  | i => if h : noSl i = true then mkE (.idx (f a).1 (f i).1) fun C d W X m t => snd_idx t.good ((f a).2 C d W X m t) ((f i).2 C d W X m t) h (noSl_ok h) else badE _
def cKws (f : (x : Expr) → CE c x) : (kws : List Keyword) → (ks : List Str) → {es : List E // ∀ C d W X n, Fit c C d W X → KwE ⟨c.G, C⟩ W X n es kws ks} ⊕' Unit
  | [], [] => .inl ⟨[], fun _ _ _ _ _ _ => .nil⟩
  | ⟨some a, x, kp⟩ :: kws, k :: ks => if h : a = k then (match cKws f kws ks with
    | .inl r => .inl ⟨(f x).1 :: r.1, fun C d W X n t => by subst h; exact .cons ((f x).2 C d W X n t) (r.2 C d W X n t)⟩
    | .inr _ => .inr ()) else .inr ()
  | _, _ => .inr ()
/-- C(.., k = v, ..) -/
def cMakeK (f : (x : Expr) → CE c x) (g : Str) (p : Pos) (y : Expr) (ys : List Expr) (kws : List Keyword) (pos : Pos) : CE c (.Call (.Name g p) (y :: ys) kws pos) :=
  if hg : c.sc.names.lookup g = some .globalImplicit ∧ (g == ("__debug__" : Str)) = false ∧ (y :: ys).all (fun x => !isStarX x) = true then
    let k := c.G.cls.findIdx fun y => decide (y.name = g)
    match hk : c.G.cls[k]? with
    | none => badE _
    | some cl => if hn : cl.name = g then (match hi : cl.ini with
      | none => badE _
      | some i => (match cKws f kws (kwOf c.G i) with
        | .inl r => mkE (.make k (cEs f (y :: ys)).1 r.1) fun C d W X n t => by
            subst hn
            exact snd_makeK t.good hk hi (r.2 C d W X n t) (by unfold Gl Env.kindOf; rw [t.s]; exact hg.1) hg.2.1 ((cEs f (y :: ys)).2 C d W X n t) hg.2.2
        | .inr _ => badE _)) else badE _
  else badE _
def cCall (f : (x : Expr) → CE c x) (g : Expr) (xs : List Expr) (ks : List Keyword) (pos : Pos) : CE c (.Call g xs ks pos) := match ks with
  | [] => (match g with
    | .Name g p => cCallN f g p xs pos
    | .Attribute o m ap => cCallM f o m ap xs pos
    | _ => badE _)
  | _ => (match g, xs with
    | .Name g p, y :: ys => cMakeK f g p y ys _ pos
    | _, _ => badE _)
def nmsOf : Expr → List Str
  | .Name x _ => [x]
  | .Tuple xs _ _ => xs.filterMap fun
    | .Name x _ => some x
    | _ => none
  | _ => []
def cLc (f : (x : Expr) → CE c x) (scope : Scope) (fb : (x : Expr) → CE (c.blk scope) x) (ft : (x : Expr) → CT (c.blk scope) x) (elt : Expr) (gs : List Comprehension) (pos : Pos) : CE c (.ListComp elt gs scope pos) := match gs with
  | [⟨tg, iter, ifs, as⟩] => if h : blkOk c.N c.sc scope = true ∧ noSet iter = true ∧ as = 0 then
      (match cCT (c := c.blk scope) ((ownOf c.N scope).map (·.2)) tg, cTs ft ifs with
      | .inl t, .inl tt =>
          mkE (.lc (fb elt).1 t.1 (cI f tg iter).1 tt.1 ((ownOf c.N scope).map (·.2))) fun C d W X m z => by
            obtain ⟨h1, h2, rfl⟩ := h
            exact snd_lc z.good ((cI f tg iter).2 C d W X m z) (by rw [z.n, z.s]; exact blkOk_ok h1) (fun s0 H0 D cl fp => t.2 C d W0 _ (z.blk scope s0 H0 D cl fp)) (fun s0 H0 D cl fp => tt.2 C d W0 _ m (z.blk scope s0 H0 D cl fp)) (fun s0 H0 D cl fp => (fb elt).2 C d W0 _ m (z.blk scope s0 H0 D cl fp)) (fun x => noSet_ok h2 _ _)
      | _, _ => badE _)
      else badE _
  | [⟨tg, iter, ifs, as⟩, ⟨tg1, iter1, ifs1, as1⟩] =>
      if h : blkOk c.N c.sc scope = true ∧ noSet iter = true ∧ as = 0 ∧ noSet iter1 = true ∧ as1 = 0 ∧ ∀ i ∈ (nmsOf tg1).map (ixOf c.N), i ∈ (ownOf c.N scope).map (·.2) then
      (match cCT (c := c.blk scope) ((ownOf c.N scope).map (·.2)) tg, cTs ft ifs, cCT (c := c.blk scope) ((nmsOf tg1).map (ixOf c.N)) tg1, cTs ft ifs1 with
      | .inl t, .inl tt, .inl t1, .inl tt1 =>
          mkE (.lc2 (fb elt).1 t.1 (cI f tg iter).1 tt.1 t1.1 (cI fb tg1 iter1).1 tt1.1 ((ownOf c.N scope).map (·.2)) ((nmsOf tg1).map (ixOf c.N))) fun C d W X m z => by
            obtain ⟨h1, h2, rfl, h4, rfl, h6⟩ := h
            exact snd_lc2 z.good ((cI f tg iter).2 C d W X m z) (by rw [z.n, z.s]; exact blkOk_ok h1) h6 (fun s0 H0 D cl fp => t.2 C d W0 _ (z.blk scope s0 H0 D cl fp)) (fun s0 H0 D cl fp => tt.2 C d W0 _ m (z.blk scope s0 H0 D cl fp))
              (fun s0 H0 D cl fp => (cI fb tg1 iter1).2 C d W0 _ m (z.blk scope s0 H0 D cl fp)) (fun s0 H0 D cl fp => t1.2 C d W0 _ (z.blk scope s0 H0 D cl fp)) (fun s0 H0 D cl fp => tt1.2 C d W0 _ m (z.blk scope s0 H0 D cl fp))
              (fun s0 H0 D cl fp => (fb elt).2 C d W0 _ m (z.blk scope s0 H0 D cl fp)) (fun x => noSet_ok h2 _ _) (fun e x => noSet_ok h4 _ _)
      | _, _, _, _ => badE _)
      else badE _
  | _ => badE _
def cJn (f : (x : Expr) → CE c x) (xs : List Expr) (pos : Pos) : CE c (.JoinedStr xs pos) := match xs with
  | [a] => ⟨(f a).1, fun C d W X n t => snd_jn1 ((f a).2 C d W X n t)⟩
  | x :: y :: r => mkE (.jn (cEs f (x :: y :: r)).1) fun C d W X n t => snd_jn ((cEs f (x :: y :: r)).2 C d W X n t)
  | [] => badE _
def cFm (f : (x : Expr) → CE c x) (a : Expr) (cv : Int) (sp : Option Expr) (pos : Pos) : CE c (.FormattedValue a cv sp pos) :=
  if h : cv = -1 ∧ sp = none then mkE (.fmt false (f a).1) fun C d W X n t => by
    obtain ⟨rfl, rfl⟩ := h
    exact snd_fmt t.good ((f a).2 C d W X n t)
  else if h : cv = 114 ∧ sp = none then mkE (.fmt true (f a).1) fun C d W X n t => by
    obtain ⟨rfl, rfl⟩ := h
    exact snd_fmtR t.good ((f a).2 C d W X n t)
  else badE _
def cPrs (f : (x : Expr) → CE c x) : (ks : List (Option Expr)) → (vs : List Expr) → {p : List E × List E // ∀ C d W X n, Fit c C d W X → PrE ⟨c.G, C⟩ W X n p.1 p.2 ks vs} ⊕' Unit
  | [], [] => .inl ⟨([], []), fun _ _ _ _ _ _ => .nil⟩
  | some k :: ks, v :: vs => (match cPrs f ks vs with
    | .inl r => .inl ⟨((f k).1 :: r.1.1, (f v).1 :: r.1.2), fun C d W X n t => .cons ((f k).2 C d W X n t) ((f v).2 C d W X n t) (r.2 C d W X n t)⟩
    | .inr _ => .inr ())
  | _, _ => .inr ()
def cDct (f : (x : Expr) → CE c x) (ks : List (Option Expr)) (vs : List Expr) (pos : Pos) : CE c (.Dict ks vs pos) := match ks, vs with
  | [], [] => mkE (.dct [] []) fun C d W X n t => snd_dct0 t.good
  | k :: ks, vs => if h : (k :: ks).length ≤ 15 then (match cPrs f (k :: ks) vs with
    | .inl r => mkE (.dct r.1.1 r.1.2) fun C d W X n t => snd_dct t.good (by simp) h (r.2 C d W X n t)
    | .inr _ => badE _) else badE _
  | _, _ => badE _
def cDc (f : (x : Expr) → CE c x) (scope : Scope) (fb : (x : Expr) → CE (c.blk scope) x) (ft : (x : Expr) → CT (c.blk scope) x) (xk xv : Expr) (gs : List Comprehension) (pos : Pos) : CE c (.DictComp xk xv gs scope pos) := match gs with
  | [⟨tg, iter, ifs, as⟩] => if h : blkOk c.N c.sc scope = true ∧ noSet iter = true ∧ as = 0 then
      (match cCT (c := c.blk scope) ((ownOf c.N scope).map (·.2)) tg, cTs ft ifs with
      | .inl t, .inl tt =>
          mkE (.dc (fb xk).1 (fb xv).1 t.1 (cI f tg iter).1 tt.1 ((ownOf c.N scope).map (·.2))) fun C d W X m z => by
            obtain ⟨h1, h2, rfl⟩ := h
            exact snd_dc z.good ((cI f tg iter).2 C d W X m z) (by rw [z.n, z.s]; exact blkOk_ok h1) (fun s0 H0 D cl fp => t.2 C d W0 _ (z.blk scope s0 H0 D cl fp)) (fun s0 H0 D cl fp => tt.2 C d W0 _ m (z.blk scope s0 H0 D cl fp))
              (fun s0 H0 D cl fp => (fb xk).2 C d W0 _ m (z.blk scope s0 H0 D cl fp)) (fun s0 H0 D cl fp => (fb xv).2 C d W0 _ m (z.blk scope s0 H0 D cl fp)) (fun x => noSet_ok h2 _ _)
      | _, _ => badE _)
      else badE _
  | _ => badE _
end
mutual
def cE : Nat → (c : Ct) → (x : Expr) → CE c x
  | 0, c, x => badE x
  | n + 1, c, x => match x with
    | .Constant k j pos => cConst k j pos
    | .Name x pos => cName x pos
    | .BinOp a op b pos => mkE (.bin op (cE n c a).1 (cE n c b).1) fun C d W X m f => snd_bin ((cE n c a).2 C d W X m f) ((cE n c b).2 C d W X m f)
    | .UnaryOp op a pos => cUn (cE n c) op a pos
    | .BoolOp op xs pos => (match op with
      | .And => cAnd (cE n c) xs pos
      | .Or => cOr (cE n c) xs pos)
    | .IfExp t a b pos => mkE (.ite (cT n c t).1 (cE n c a).1 (cE n c b).1) fun C d W X m f => snd_ite ((cT n c t).2 C d W X m f) ((cE n c a).2 C d W X m f) ((cE n c b).2 C d W X m f)
    | .Compare a ops bs pos => cCmp (cE n c) a ops bs pos
    | .Tuple xs k pos => (match cItems (cE n c) xs with
      | .inl es => mkE (.tup es.1) fun C d W X m f => snd_tup (es.2 C d W X m f)
      | .inr _ => badE _)
    | .List xs pos => (match cItems (cE n c) xs with
      | .inl es => mkE (.lst es.1) fun C d W X m f => snd_lst (es.2 C d W X m f)
      | .inr _ => badE _)
    | .Subscript a i pos => cSub (cE n c) a i pos
    | .Attribute a x pos => if h : c.G.nms[ixOf c.G.nms x]? = some x ∧ abOk a = true then mkE (.attr (cE n c a).1 (ixOf c.G.nms x)) fun C d W X m f => snd_attr f.good ((cE n c a).2 C d W X m f) h.1 (abOk_eq h.2 _ _ _) else badE _
    | .Call g xs ks pos => cCall (cE n c) g xs ks pos
    | .Dict ks vs pos => cDct (cE n c) ks vs pos
    | .JoinedStr xs pos => cJn (cE n c) xs pos
    | .FormattedValue a cv sp pos => cFm (cE n c) a cv sp pos
    | .DictComp xk xv gs scope pos => cDc (cE n c) scope (cE n (c.blk scope)) (cT n (c.blk scope)) xk xv gs pos
    | .ListComp elt gs scope pos => cLc (cE n c) scope (cE n (c.blk scope)) (cT n (c.blk scope)) elt gs pos
    | x => badE x
def cT : Nat → (c : Ct) → (x : Expr) → CT c x
  | 0, c, x => badT x
  | n + 1, c, x => match x with
    | .UnaryOp op a pos => (match op with
      | .Not => mkT (.not (cT n c a).1) fun C d W X m f => snt_not ((cT n c a).2 C d W X m f)
      | _ => badT _)
    | .BoolOp op xs pos => (match op with
      | .And => ⟨(cWAnd (cT n c) xs pos).1, fun C d W X m f => ((cWAnd (cT n c) xs pos).2 C d W X m f).t⟩
      | .Or => ⟨(cWOr (cT n c) xs pos).1, fun C d W X m f => ((cWOr (cT n c) xs pos).2 C d W X m f).t⟩)
    | .Compare a ops bs pos => cCmpT (cE n c) a ops bs pos
    | x => if h : plainT' x = true then ⟨(cE n c x).1, fun C d W X m f => snt_val ((cE n c x).2 C d W X m f) fun wh => plainT_ok h _ _⟩ else badT x
end
section
variable {c : Ct}
def cGs (f : (x : Expr) → CG c x ⊕' Unit) : (xs : List Expr) → CGs c xs ⊕' Unit
  | [] => .inl ⟨[], fun _ _ _ _ _ _ _ => .nil⟩
  | x :: xs => match f x, cGs f xs with
    | .inl a, .inl b => .inl ⟨a.1 :: b.1, fun C d W X n m h => .cons (a.2 C d W X n m h) (b.2 C d W X n m h)⟩
    | _, _ => .inr ()
def cG (f : (x : Expr) → CE c x) : Nat → (x : Expr) → CG c x ⊕' Unit
  | 0, x => .inr ()
  | n + 1, x => match x with
    | .Name x pos => if h : c.N[ixOf c.N x]? = some x ∧ L2.Loc c.sc x ∧ c.top = true then .inl (mkG (.nm (ixOf c.N x)) fun C d W X n m t => sng_nm t.good (by rw [t.n]; exact h.1) (by rw [t.s]; exact h.2.1) (t.f h.2.2 x (List.mem_of_getElem? h.1))) else .inr ()
    | .Tuple xs k pos => (match cGs (cG f n) xs with
      | .inl ts => if h : xs.all (fun x => !isStarX x) = true then .inl (mkG (.tp ts.1) fun C d W X n m t => sng_tp t.good (ts.2 C d W X n m t) h) else .inr ()
      | .inr _ => .inr ())
    | .Attribute o x pos => if h : c.G.nms[ixOf c.G.nms x]? = some x then .inl (mkG (.fld (f o).1 (ixOf c.G.nms x)) fun C d W X n m t => sng_fld t.good ((f o).2 C d W X n t) h) else .inr ()
    | .Subscript o i pos => if h : noSl i = true then .inl (mkG (.ix (f o).1 (f i).1) fun C d W X n m t => sng_ix t.good ((f o).2 C d W X n t) ((f i).2 C d W X n t) h) else .inr ()
    | _ => .inr ()
def cSs (f : (x : Stmt) → CS c x) : (xs : List Stmt) → CSs c xs
  | [] => ⟨[], fun _ _ _ _ _ _ => sns_nil⟩
  | x :: xs => ⟨(f x).1 :: (cSs f xs).1, fun C d W X n h => sns_cons ((f x).2 C d W X n h) ((cSs f xs).2 C d W X n h)⟩
theorem low2 {P : Pe} {W : WX} {X : Cx} {n : Nat} {t : Tg} {es : List E} {e : E} {x : Stmt} (hn : n < 3) (he : isStar e = none) : SndSt P W X n (.asg t (.tup (e :: es))) x := fun ι S ρ σ H D rh re h => by
  match n, hn with
  | 0, _ => exact h.elim
  | 1, _ => exact h.elim
  | 2, _ =>
    have h' : AftR P W X D ι S H (((evS (fun e S => ev P 0 e ρ S) (e :: es) S).bind fun vs S1 => if okLen vs.length then Rs.ok (.tup vs) S1 else .bad).st ρ fun v S1 => (asg P.G (fun e ρ S => ev P 1 e ρ S) 1 t v ρ S1).st ρ fun ρ1 S2 => .fl (.nx ρ1) S2) := h
    have q : evS (fun e S => ev P 0 e ρ S) (e :: es) S = .bad := by
      unfold evS
      rw [he]
      rfl
    rw [q] at h'
    exact h'.elim
/-- whether a comprehension stores by itself -/
def swB (sc : Scope) (v : Expr) (scope : Scope) (y : Str) (py : Pos) : Bool := sc.names.lookup y == some .local && py.line == v.pos.line && !(scope.names.any fun (n, k) => n == y && (k == .local || k == .cell))
theorem swB_ok {sc : Scope} {elt : Expr} {gs : List Comprehension} {scope : Scope} {pos : Pos} {y : Str} {py : Pos} {l : Nat} {env : Env} (hs : env.scope = sc) (hk : env.scope.kind = .function) : swapsWith (.ListComp elt gs scope pos) (some (.Name y py)) l env = pure (swB sc (.ListComp elt gs scope pos) scope y py) := by
  have e : env.blockKind = .function := by unfold Env.blockKind; rw [hk]; rfl
  subst hs
  show pure (env.blockKind == .function && env.kindOf y == some .local && py.line == (Expr.ListComp elt gs scope pos).pos.line && !(scope.names.any fun (n, k) => n == y && (k == .local || k == .cell))) = _
  rw [e]
  rfl
theorem snst_asg' {P : Pe} {W : WX} {X : Cx} {n : Nat} {a : E} {t : Tg} {y : Str} {py pos p2 : Pos} {elt : Expr} {gs : List Comprehension} {scope : Scope} (ht : SndG P W X n n t (.Name y py)) (ha : SndE P W X n a (.ListComp elt gs scope p2)) (h : swB X.env.scope (.ListComp elt gs scope p2) scope y py = false) :
    SndSt P W X (n + 1) (.asg t a) (.Assign [.Name y py] (.ListComp elt gs scope p2) pos) := fun ι S ρ σ H D rh re h' => by
  intro pins s I
  refine (ps_asg (peW (X := X) (e := .ListComp elt gs scope p2)) (pgW (X := X) (tg := .Name y py)) (by show swapsWith (.ListComp elt gs scope p2) (some (.Name y py)) pos.line X.env = pure false; rw [swB_ok rfl I.ok.kind, h]) rfl rfl).run pins s σ H D I ?_
  refine ha ι S ρ σ H _ rh re (AftR.st (Ra := RVg X P.G) h' re fun v S1 _ ι1 H1 w rh1 le1 r1 h1 => ?_)
  exact ht ι1 S1 ρ σ H1 v w _ rh1 (re.mono le1) r1 (AftR.st (Ra := REg X P) h1 (re.mono le1) fun ρ1 S2 _ ι2 H2 σ2 rh2 le2 re2 h2 => h2 ι2 H2 σ2 rh2 Le.refl re2)
theorem low1 {P : Pe} {W : WX} {X : Cx} {n : Nat} {t : Tg} {e : E} {x : Stmt} (hn : n < 2) : SndSt P W X n (.asg t e) x := fun ι S ρ σ H D rh re h => by
  match n, hn with
  | 0, _ => exact h.elim
  | 1, _ => exact h.elim
/-- y = [..] -/
def cAsgLc (f : (x : Expr) → CE c x) (n : Nat) (y : Str) (py : Pos) (scope : Scope) (fb : (x : Expr) → CE (c.blk scope) x) (ft : (x : Expr) → CT (c.blk scope) x) (elt : Expr) (gs : List Comprehension) (p2 pos : Pos) : CS c (.Assign [.Name y py] (.ListComp elt gs scope p2) pos) :=
  if h0 : swB c.sc (.ListComp elt gs scope p2) scope y py = false then
    match cG f n (.Name y py) with
    | .inl t => mkS (.asg t.1 (cLc f scope fb ft elt gs p2).1) fun C d W X m t' => snst_asg' (t.2 C d W X m m t') ((cLc f scope fb ft elt gs p2).2 C d W X m t') (by rw [t'.s]; exact h0)
    | .inr _ => badS _
  else if hy : c.N[ixOf c.N y]? = some y ∧ c.sc.names.lookup y = some .local then match gs with
    | [⟨tg, iter, ifs, as⟩] => if h : blkOk c.N c.sc scope = true ∧ noSet iter = true ∧ as = 0 then
      (match cCT (c := c.blk scope) ((ownOf c.N scope).map (·.2)) tg, cTs ft ifs with
      | .inl t, .inl tt =>
          ⟨.asg (.nm (ixOf c.N y)) (.lc (fb elt).1 t.1 (cI f tg iter).1 tt.1 ((ownOf c.N scope).map (·.2))), fun C d W X m z => by
            obtain ⟨h1, h2, rfl⟩ := h
            match m with
            | 0 => exact low1 (by omega)
            | 1 => exact low1 (by omega)
            | m + 2 =>
              exact snst_setLc z.good ((cI f tg iter).2 C d W X m z) (by rw [z.n, z.s]; exact blkOk_ok h1) (fun s0 H0 D cl fp => t.2 C d W0 _ (z.blk scope s0 H0 D cl fp)) (fun s0 H0 D cl fp => tt.2 C d W0 _ m (z.blk scope s0 H0 D cl fp)) (fun s0 H0 D cl fp => (fb elt).2 C d W0 _ m (z.blk scope s0 H0 D cl fp)) (fun x => noSet_ok h2 _ _)
                (by rw [z.n]; exact hy.1) (by rw [z.s]; exact hy.2) (fun hk => by rw [swB_ok z.s hk]; simp only [Bool.not_eq_false] at h0; rw [h0])⟩
      | _, _ => badS _)
      else badS _
    | [⟨tg, iter, ifs, as⟩, ⟨tg1, iter1, ifs1, as1⟩] =>
      if h : blkOk c.N c.sc scope = true ∧ noSet iter = true ∧ as = 0 ∧ noSet iter1 = true ∧ as1 = 0 ∧ ∀ i ∈ (nmsOf tg1).map (ixOf c.N), i ∈ (ownOf c.N scope).map (·.2) then
      (match cCT (c := c.blk scope) ((ownOf c.N scope).map (·.2)) tg, cTs ft ifs, cCT (c := c.blk scope) ((nmsOf tg1).map (ixOf c.N)) tg1, cTs ft ifs1 with
      | .inl t, .inl tt, .inl t1, .inl tt1 =>
          ⟨.asg (.nm (ixOf c.N y)) (.lc2 (fb elt).1 t.1 (cI f tg iter).1 tt.1 t1.1 (cI fb tg1 iter1).1 tt1.1 ((ownOf c.N scope).map (·.2)) ((nmsOf tg1).map (ixOf c.N))), fun C d W X m z => by
            obtain ⟨h1, h2, rfl, h4, rfl, h6⟩ := h
            match m with
            | 0 => exact low1 (by omega)
            | 1 => exact low1 (by omega)
            | m + 2 =>
              exact snst_setLc2 z.good ((cI f tg iter).2 C d W X m z) (by rw [z.n, z.s]; exact blkOk_ok h1) h6 (fun s0 H0 D cl fp => t.2 C d W0 _ (z.blk scope s0 H0 D cl fp)) (fun s0 H0 D cl fp => tt.2 C d W0 _ m (z.blk scope s0 H0 D cl fp))
                (fun s0 H0 D cl fp => (cI fb tg1 iter1).2 C d W0 _ m (z.blk scope s0 H0 D cl fp)) (fun s0 H0 D cl fp => t1.2 C d W0 _ (z.blk scope s0 H0 D cl fp)) (fun s0 H0 D cl fp => tt1.2 C d W0 _ m (z.blk scope s0 H0 D cl fp))
                (fun s0 H0 D cl fp => (fb elt).2 C d W0 _ m (z.blk scope s0 H0 D cl fp)) (fun x => noSet_ok h2 _ _) (fun e x => noSet_ok h4 _ _)
                (by rw [z.n]; exact hy.1) (by rw [z.s]; exact hy.2) (fun hk => by rw [swB_ok z.s hk]; simp only [Bool.not_eq_false] at h0; rw [h0])⟩
      | _, _, _, _ => badS _)
      else badS _
    | _ => badS _
  else badS _
/-- an assignment -/
def cAsg (f : (x : Expr) → CE c x) (n : Nat) (tg v : Expr) (pos : Pos) : CS c (.Assign [tg] v pos) :=
  if h1 : (!isComp v || !isNameX tg) = true ∧ noTT tg v = true ∧ isStarX tg = false then
    match cG f n tg with
    | .inl t => mkS (.asg t.1 (f v).1) fun C d W X m t' => snst_asg (t.2 C d W X m m t') ((f v).2 C d W X m t') h1.1 h1.2.1 h1.2.2
    | .inr _ => badS _
  else match tg, v with
    | .Tuple ts k p, .Tuple vs k2 p2 =>
      if h2 : swSt c.sc ts vs = some none then (match cG f n (.Tuple ts k p) with
        | .inl t => mkS (.asg t.1 (f (.Tuple vs k2 p2)).1) fun C d W X m t' => snst_asgT (t.2 C d W X m m t') ((f (.Tuple vs k2 p2)).2 C d W X m t') (by rw [t'.s]; exact h2)
        | .inr _ => badS _)
      else match ts, vs with
        | [.Name x px, .Name y py], [xa, xb] =>
          if h : c.N[ixOf c.N x]? = some x ∧ c.N[ixOf c.N y]? = some y ∧ ixOf c.N x ≠ ixOf c.N y ∧ c.sc.names.lookup x = some .local ∧ c.sc.names.lookup y = some .local ∧ [xa, xb].all (fun x => !isStarX x) = true ∧
            swSt c.sc [.Name x px, .Name y py] [xa, xb] = some (some [x, y]) ∧ [(f xa).1, (f xb).1].all (fun e => (isStar e).isNone) = true then
            ⟨.asg (.tp [.nm (ixOf c.N x), .nm (ixOf c.N y)]) (.tup [(f xa).1, (f xb).1]), fun C d W X m t => by
              obtain ⟨e1, e2, e3, e4, e5, e6, e7, e8⟩ := h
              match m with
              | 0 => exact snst_zero
              | 1 => exact low2 (by omega) (by simp at e8; exact e8.1)
              | 2 => exact low2 (by omega) (by simp at e8; exact e8.1)
              | m + 3 => exact snst_par2 t.good (by rw [t.n]; exact e1) (by rw [t.n]; exact e2) e3 (by rw [t.s]; exact e4) (by rw [t.s]; exact e5) (.cons ((f xa).2 C d W X _ t) (.cons ((f xb).2 C d W X _ t) .nil)) e6 (by rw [t.s]; exact e7) e8⟩
          else badS _
        | [.Name x px, .Name y py, .Name z pz], [xa, xb, xc] =>
          if h : c.N[ixOf c.N x]? = some x ∧ c.N[ixOf c.N y]? = some y ∧ c.N[ixOf c.N z]? = some z ∧ ixOf c.N x ≠ ixOf c.N y ∧ ixOf c.N x ≠ ixOf c.N z ∧ ixOf c.N y ≠ ixOf c.N z ∧ c.sc.names.lookup x = some .local ∧ c.sc.names.lookup y = some .local ∧ c.sc.names.lookup z = some .local ∧ [xa, xb, xc].all (fun x => !isStarX x) = true ∧
            swSt c.sc [.Name x px, .Name y py, .Name z pz] [xa, xb, xc] = some (some [x, y, z]) ∧ [(f xa).1, (f xb).1, (f xc).1].all (fun e => (isStar e).isNone) = true then
            ⟨.asg (.tp [.nm (ixOf c.N x), .nm (ixOf c.N y), .nm (ixOf c.N z)]) (.tup [(f xa).1, (f xb).1, (f xc).1]), fun C d W X m t => by
              obtain ⟨e1, e2, e0, e3, e31, e32, e4, e5, e51, e6, e7, e8⟩ := h
              match m with
              | 0 => exact snst_zero
              | 1 => exact low2 (by omega) (by simp at e8; exact e8.1)
              | 2 => exact low2 (by omega) (by simp at e8; exact e8.1)
              | m + 3 => exact snst_par3 t.good (by rw [t.n]; exact e1) (by rw [t.n]; exact e2) (by rw [t.n]; exact e0) e3 e31 e32 (by rw [t.s]; exact e4) (by rw [t.s]; exact e5) (by rw [t.s]; exact e51) (.cons ((f xa).2 C d W X _ t) (.cons ((f xb).2 C d W X _ t) (.cons ((f xc).2 C d W X _ t) .nil))) e6 (by rw [t.s]; exact e7) e8⟩
          else badS _
        | _, _ => badS _
    | _, _ => badS _
end
def cS : Nat → (c : Ct) → (x : Stmt) → CS c x
  | 0, c, x => badS x
  | n + 1, c, x => match x with
    | .Pass pos => mkS .pass fun _ _ _ _ _ _ => snst_pass
    | .Break pos => mkS .brk fun _ _ _ _ _ _ => snst_brk
    | .Continue pos => mkS .cnt fun _ _ _ _ _ _ => snst_cnt
    | .Return o pos => (match o with
      | none => mkS (.ret none) fun _ _ _ _ _ _ => snst_retN
      | some a => mkS (.ret (some (cE n c a).1)) fun C d W X m t => snst_ret ((cE n c a).2 C d W X m t))
    | .Expr a pos => if h : isComp a = false then mkS (.expr (cE n c a).1) fun C d W X m t => snst_expr ((cE n c a).2 C d W X m t) h else badS _
    | .If t a b pos => mkS (.ife (cT n c t).1 (cSs (cS n c) a).1 (cSs (cS n c) b).1) fun C d W X m f => snst_if ((cT n c t).2 C d W X m f) ((cSs (cS n c) a).2 C d W X m f) ((cSs (cS n c) b).2 C d W X m f)
    | .While t a el pos => (match el with
      | _ :: _ => badS _
      | [] => mkS (.whl (cT n c t).1 (cSs (cS n c) a).1) fun C d W X m f => snst_whl f.good ((cT n c t).2 C d W X m f) ((cSs (cS n c) a).2 C d W X m f))
    | .For tg iter b el pos => (match el, cG (cE n c) n tg with
      | _ :: _, _ => badS _
      | [], .inl t => if h : noSet iter = true then mkS (.for_ t.1 (cI (cE n c) tg iter).1 (cSs (cS n c) b).1) fun C d W X m f => snst_for f.good (t.2 C d W X m m f) ((cI (cE n c) tg iter).2 C d W X m f) ((cSs (cS n c) b).2 C d W X m f) (fun x => noSet_ok h _ _) else badS _
      | [], .inr _ => badS _)
    | .Assign ts v pos => (match ts with
      | [tg] => (match tg, v with
        | .Name y py, .ListComp elt gs scope p2 => cAsgLc (cE n c) n y py scope (cE n (c.blk scope)) (cT n (c.blk scope)) elt gs p2 pos
        | tg, v => cAsg (cE n c) n tg v pos)
      | _ => badS _)
    | x => badS x
end Ab

namespace Ab
open PySem L2
theorem zip_lookup : ∀ {ns : List Str} {us : List Value}, us.length = ns.length → ∀ n ∈ ns, ((ns.zip us).lookup n).isSome = true
  | [], _, _, n, h => nomatch h
  | m :: ns, u :: us, hl, n, h => by
    show (List.lookup n ((m, u) :: ns.zip us)).isSome = true
    rw [List.lookup_cons]
    cases e : n == m with
    | true => rfl
    | false =>
      rcases List.mem_cons.mp h with rfl | h
      · simp at e
      · exact zip_lookup (by simpa using hl) n h
  | _ :: _, [], hl, _, _ => by simp at hl
theorem zip_back : ∀ {ns : List Str} {us : List Value}, us.length = ns.length → ns.Nodup → (ns.filterMap fun n => ((ns.zip us).lookup n).map (n, ·)) = ns.zip us := by
  have key : ∀ (pre : List (Str × Value)) (ns : List Str) (us : List Value), us.length = ns.length → ns.Nodup → (∀ n ∈ ns, pre.lookup n = none) → (ns.filterMap fun n => ((pre ++ ns.zip us).lookup n).map (n, ·)) = ns.zip us := by
    intro pre ns
    induction ns generalizing pre with
    | nil => intro us _ _ _; rfl
    | cons m ns ih =>
      intro us hl nd hp
      cases us with
      | nil => simp at hl
      | cons u us =>
        have h1 : (pre ++ (m :: ns).zip (u :: us)).lookup m = some u := by
          rw [List.lookup_append, hp m (by simp)]
          simp
        rw [List.filterMap_cons, h1]
        have h2 := ih (pre ++ [(m, u)]) us (by simpa using hl) (List.nodup_cons.mp nd).2 (fun n hn => by
          rw [List.lookup_append, hp n (List.mem_cons_of_mem _ hn)]
          have : n ≠ m := fun e => (List.nodup_cons.mp nd).1 (e ▸ hn)
          simp [this])
        have e3 : pre ++ (m :: ns).zip (u :: us) = pre ++ [(m, u)] ++ ns.zip us := by simp
        rw [e3, h2]
        rfl
  intro ns us hl nd
  have := key [] ns us hl nd (fun _ _ => rfl)
  simpa using this
theorem bind_plain {x qual : Str} {ar : List Arg} {body : List Stmt} {scope : Scope} {kV doc pm cdv ct : Value} {an : Option Addr} {us : List Value} (hl : us.length = (ar.map (·.arg)).length) (nd : (ar.map (·.arg)).Nodup) :
    bindArgs (PySem.W.fnOf x qual ⟨[], ar, none, [], [], none, []⟩ body scope .none kV doc pm an cdv ct) ⟨us, []⟩ = pure ((ar.map (·.arg)).zip us) := by
  generalize hn : ar.map (·.arg) = ns at hl nd
  have h1 : (ns.filter fun n => ((ns.zip us).lookup n).isNone) = [] := by
    rw [List.filter_eq_nil_iff]
    intro n h
    have := zip_lookup hl n h
    cases q : (ns.zip us).lookup n with
    | none => rw [q] at this; cases this
    | some _ => simp
  unfold bindArgs
  simp only [PySem.W.fnOf, hn, List.map_nil, List.nil_append, List.append_nil]
  have hs : seqItems? .none = pure none := rfl
  have h2 : ¬ (us.length > ns.length) := by omega
  simp only [List.forIn_nil, pure_bind, hs, Option.getD_none, List.drop_nil, List.length_nil, Nat.sub_zero, Nat.zero_sub, List.take_length, h1, List.isEmpty_nil, Bool.not_true, h2, decide_false, Bool.false_and, Bool.false_eq_true, if_false, List.zip_nil_right, zip_back hl nd]

structure MB (G : Gx) (K : PySem.W.Frag) (mg : Str → Option Value) : Prop where
  free : ∀ x ∈ bltN, mg x = none
  glo : ∀ (k : Nat) (x : Str), G.fns[k]? = some (x, none) → mg x = some (.ref (He.fAd K (x, none)))
  clg : ∀ (k : Nat) (c : Cl), G.cls[k]? = some c → mg c.name = some (.ref (He.ga K c.name))
  fld : ∀ (k f : Nat) (c : Cl), G.cls[k]? = some c → c.flds.contains f = true → ∃ x, G.nms[f]? = some x ∧ NoAttr K (He.ga K c.name) x ∧ Cls K (He.ga K c.name)
  nnd : G.nms.Nodup
  pln : ∀ (k : Nat) (c : Cl), G.cls[k]? = some c → c.plain = true → Cls K (He.ga K c.name) ∧ PySem.W.findIn K (.ref (He.ga K c.name)) "__class__" = some (some (.builtin "object.__class__")) ∧ PySem.W.mroIn K (He.ga K c.name) (.type "object") = some true
  obg : PySem.W.specialIn K (.builtin "object.__class__") "__get__" = some (some (.builtin "getset_descriptor.__get__")) ∧ PySem.W.takesIn K (.builtin "object.__class__") = some true
  isi : ∀ (t u : Ty) (b : Bool), isTy G t u = some b → PySem.W.kitOne K (tyVal K G t) (tyVal K G u) = some b
  cst : ∀ (k : Nat) (x : Str) (v : AV), G.cons[k]? = some (x, v) → ∃ u w, mg x = some u ∧ RelV w u ∧ ∀ ι m H, RV K G ι m H v w
  mth : ∀ (f k i : Nat) (x : Str) (c : Cl), G.nms[f]? = some x → G.cls[k]? = some c → c.meths.lookup f = some i → ∃ fa, G.fns[i]? = some fa ∧ Meth K (He.ga K c.name) x (He.fAd K fa) ∧ Cls K (He.ga K c.name) ∧ kwOf G i = []
  mkf : ∀ (k i : Nat) (c : Cl), G.cls[k]? = some c → c.ini = some i → ∃ fa, G.fns[i]? = some fa ∧ Mk K (He.ga K c.name) (He.fAd K fa)
  xcf : ∀ (k : Nat) (c : Cl), G.cls[k]? = some c → c.xb ≠ 0 → XcF K G c
section
variable {prog : Program} {w : World} {K : PySem.W.Frag} {mg : Str → Option Value} {base : Heap} {G : Gx}
def FnsOk (prog : Program) (w : World) (K : PySem.W.Frag) (mg : Str → Option Value) (base : Heap) (G : Gx) (C : Nat → List AV → Hs → Rs AV) (d : Nat) : Prop :=
  ∀ (k : Nat) (f : Str × Option Str), G.fns[k]? = some f → ∃ fd ps, FnG prog w K mg base (CX prog w) d (He.fAd K f) fd ps (spC K ⟨G, C⟩ k) ∧ BdG K fd ps (kwOf G k) ∧ PySem.W.keepIn K (.ref (He.fAd K f)) = true
theorem mf_of {X : Cx} {C : Nat → List AV → Hs → Rs AV} {d : Nat} (b : MB G X.K X.mg) (f : FnsOk X.prog X.w X.K X.mg X.base G C d) : MF ⟨G, C⟩ d X :=
  ⟨b.free, f, b.glo, b.clg, b.fld, b.nnd, b.pln, b.obg, b.isi, b.cst, b.mth, b.mkf, b.xcf⟩
/-- a def's promise, by its body -/
def spR (K : PySem.W.Frag) (G : Gx) (C : Nat → List AV → Hs → Rs AV) (f : Fb) : Sp := fun ws H Q E => ∃ (ι : Nat → Addr) (S : Hs) (vs : List AV), RH K G ι S H ∧ RVs K G ι S.n H vs ws ∧
  Aft K G (fun ι m H (x : AV) (v : V) => RV K G ι m H x v) Q E ι S H (runFn ⟨G, C⟩ f vs S)
theorem spR_len {C : Nat → List AV → Hs → Rs AV} {f : Fb} {ws : List V} {H : Hp} {Q : VK} {E : XK} (h : spR K G C f ws H Q E) : ws.length = f.np := by
  obtain ⟨ι, S, vs, rh, rv, h⟩ := h
  unfold runFn at h
  split at h
  · rename_i e
    rw [← rv.length]; exact e
  · exact h.elim
theorem appG_get {m : Nat} {g : Nat → Option AO} : ∀ (k i : Nat) (S : Hs), (appG m g k i S).n = S.n + k ∧ (∀ j, j < S.n → (appG m g k i S).get j = S.get j) ∧ ∀ j o, j < k → g (i + j) = some o → (appG m g k i S).get (S.n + j) = some (shO m o)
  | 0, i, S => ⟨rfl, fun _ _ => rfl, fun j o h => absurd h (Nat.not_lt_zero _)⟩
  | k + 1, i, S => by
    have gen : ∀ o', (appG m g k (i + 1) (S.push o')).n = S.n + (k + 1) ∧ (∀ j, j < S.n → (appG m g k (i + 1) (S.push o')).get j = S.get j) ∧ (appG m g k (i + 1) (S.push o')).get S.n = some o' ∧ ∀ j o, j < k → g (i + 1 + j) = some o → (appG m g k (i + 1) (S.push o')).get (S.n + 1 + j) = some (shO m o) := by
      intro o'
      obtain ⟨h1, h2, h3⟩ := appG_get k (i + 1) (S.push o')
      rw [Hs.push_n] at h1 h3
      refine ⟨by rw [h1]; omega, fun j hj => ?_, ?_, h3⟩
      · rw [h2 j (by rw [Hs.push_n]; omega)]; exact Hs.get_push_ne (by omega)
      · rw [h2 S.n (by rw [Hs.push_n]; omega)]; exact Hs.get_push_self _ _
    show (appG m g k (i + 1) (match g i with | some o => S.push (shO m o) | none => S.push (.lst []))).n = _ ∧ (∀ j, j < S.n → (appG m g k (i + 1) (match g i with | some o => S.push (shO m o) | none => S.push (.lst []))).get j = _) ∧ ∀ j o, j < k + 1 → g (i + j) = some o → (appG m g k (i + 1) (match g i with | some o => S.push (shO m o) | none => S.push (.lst []))).get (S.n + j) = some (shO m o)
    cases e : g i with
    | none =>
      obtain ⟨h1, h2, h3, h4⟩ := gen (.lst [])
      refine ⟨h1, h2, fun j o hj ej => ?_⟩
      cases j with
      | zero => rw [Nat.add_zero, e] at ej; cases ej
      | succ j => rw [show S.n + (j + 1) = S.n + 1 + j by omega]; exact h4 j o (by omega) (by rw [show i + 1 + j = i + (j + 1) by omega]; exact ej)
    | some o' =>
      obtain ⟨h1, h2, h3, h4⟩ := gen (shO m o')
      refine ⟨h1, h2, fun j o hj ej => ?_⟩
      cases j with
      | zero => rw [Nat.add_zero, e] at ej; cases ej; exact h3
      | succ j => rw [show S.n + (j + 1) = S.n + 1 + j by omega]; exact h4 j o (by omega) (by rw [show i + 1 + j = i + (j + 1) by omega]; exact ej)
section
variable {ι ι1 : Nat → Addr} {m m1 : Nat} {H : Hp}
def lay2 (ι ι1 : Nat → Addr) (m : Nat) : Nat → Addr := fun i => if i < m then ι i else ι1 (i - m)
mutual
theorem RV.sh : ∀ {x : AV} {v : V}, RV K G ι1 m1 H x v → RV K G (lay2 ι ι1 m) (m + m1) H (shV m x) v
  | _, _, .non => .non
  | _, _, .bl b => .bl b
  | _, _, .int i => .int i
  | _, _, .str x => .str x
  | _, _, .tup h r => .tup h (RVs.sh r)
  | _, _, .ref (n := n) h => by
    have q := RV.ref (K := K) (G := G) (ι := lay2 ι ι1 m) (m := m + m1) (H := H) (n := m + n) (by omega)
    have e : lay2 ι ι1 m (m + n) = ι1 n := by unfold lay2; rw [if_neg (by omega), Nat.add_sub_cancel_left]
    rw [e] at q
    exact q
  | _, _, .ty s => .ty s
  | _, _, .fn h => .fn h
  | _, _, .cl h => .cl h
theorem RVs.sh : ∀ {x : List AV} {v : List V}, RVs K G ι1 m1 H x v → RVs K G (lay2 ι ι1 m) (m + m1) H (shVs m x) v
  | _, _, .nil => .nil
  | _, _, .cons r t => .cons (RV.sh r) (RVs.sh t)
end
theorem RKs.sh {κ : Type} : ∀ {x : List (κ × AV)} {v : List (κ × V)}, RKs K G ι1 m1 H x v → RKs K G (lay2 ι ι1 m) (m + m1) H (x.map fun p => (p.1, shV m p.2)) v
  | _, _, .nil => .nil
  | _, _, .cons r t => .cons (RV.sh r) (RKs.sh t)
theorem RFs.sh : ∀ {x : List (Nat × AV)} {v : List (Str × V)}, RFs K G ι1 m1 H x v → RFs K G (lay2 ι ι1 m) (m + m1) H (x.map fun p => (p.1, shV m p.2)) v
  | _, _, .nil => .nil
  | _, _, .cons e r t => .cons e (RV.sh r) (RFs.sh t)
theorem RU.sh : ∀ {a : Addr} {x : AO} {v : HO}, RU K G ι1 m1 H a x v → RU K G (lay2 ι ι1 m) (m + m1) H a (shO m x) v
  | _, _, _, .lst r => .lst (RVs.sh r)
  | _, _, _, .dct r => .dct (RKs.sh r)
  | _, _, _, .dtt r => .dtt (RKs.sh r)
  | _, _, _, .ins e r => .ins e (RFs.sh r)
  | _, _, _, .lck r => .lck (RU.sh r)
  | _, _, _, .xdc r e => .xdc (RFs.sh r) e
  | _, _, _, .exo (d := d) h hd e => .exo h (fun n hn => by
      obtain ⟨k, hk, rfl⟩ := Option.map_eq_some_iff.mp hn
      have := hd k hk
      omega) (by
      have q : (d.map (m + ·)).map (lay2 ι ι1 m) = d.map ι1 := by
        cases d with
        | none => rfl
        | some k => show some (lay2 ι ι1 m (m + k)) = some (ι1 k); unfold lay2; rw [if_neg (by omega), Nat.add_sub_cancel_left]
      rw [q]; exact e)
mutual
theorem RV.nr : ∀ {x : AV} {v : V}, noRef x = true → RV K G ι m H x v → RV K G ι1 0 H x v
  | _, _, _, .non => .non
  | _, _, _, .bl b => .bl b
  | _, _, _, .int i => .int i
  | _, _, _, .str x => .str x
  | _, _, e, .tup h r => .tup h (RVs.nr (by unfold noRef at e; exact e) r)
  | _, _, e, .ref h => by unfold noRef at e; cases e
  | _, _, _, .ty s => .ty s
  | _, _, _, .fn h => .fn h
  | _, _, _, .cl h => .cl h
theorem RVs.nr : ∀ {x : List AV} {v : List V}, noRefs x = true → RVs K G ι m H x v → RVs K G ι1 0 H x v
  | _, _, _, .nil => .nil
  | _, _, e, .cons r t => by
    unfold noRefs at e
    rw [Bool.and_eq_true] at e
    exact .cons (RV.nr e.1 r) (RVs.nr e.2 t)
end
theorem lift_rh {S S1 : Hs} {H' : Hp} (rh : RH K G ι S H) (rh1 : RH K G ι1 S1 H') (le : Le K ι 0 H ι1 S1.n H') : RH K G (lay2 ι ι1 S.n) (appH S S1) H' ∧ Le K ι S.n H (lay2 ι ι1 S.n) (appH S S1).n H' := by
  obtain ⟨a1, a2, a3⟩ := appG_get (m := S.n) (g := S1.get) S1.n 0 S
  have a1 : (appH S S1).n = S.n + S1.n := a1
  have a2 : ∀ j, j < S.n → (appH S S1).get j = S.get j := a2
  have a3 : ∀ j o, j < S1.n → S1.get (0 + j) = some o → (appH S S1).get (S.n + j) = some (shO S.n o) := a3
  have old : ∀ {i}, i < S.n → lay2 ι ι1 S.n i = ι i := fun h => if_pos h
  have new : ∀ {i}, lay2 ι ι1 S.n (S.n + i) = ι1 i := fun {i} => by unfold lay2; rw [if_neg (by omega), Nat.add_sub_cancel_left]
  have apart : ∀ {i j}, i < S.n → j < S1.n → ι i ≠ ι1 j := fun {i j} hi hj e => by
    obtain ⟨_, u, _, e2, _⟩ := rh.all i hi
    have q := le.nw j (Nat.zero_le _) hj
    rw [← e, e2] at q; cases q
  have keep : ∀ {a u}, H a = some u → H' a = some u := fun {a u} h => le.fr a u h fun n h => absurd h (Nat.not_lt_zero _)
  have lw : Lw K ι S.n H (lay2 ι ι1 S.n) (S.n + S1.n) H' := ⟨Nat.le_add_right _ _, fun n h => old h, le.tp⟩
  refine ⟨⟨fun i j hi hj e => ?_, fun i hi => ?_⟩, ⟨by rw [a1]; omega, fun n h => old h, le.tp, fun a u h _ => keep h, fun n h1 h2 => ?_, le.dom⟩⟩
  · rw [a1] at hi hj
    by_cases ci : i < S.n
    · by_cases cj : j < S.n
      · rw [old ci, old cj] at e; exact rh.inj i j ci cj e
      · obtain ⟨j', rfl⟩ := Nat.exists_eq_add_of_le (Nat.le_of_not_lt cj)
        rw [old ci, new] at e
        exact absurd e (apart ci (by omega))
    · obtain ⟨i', rfl⟩ := Nat.exists_eq_add_of_le (Nat.le_of_not_lt ci)
      by_cases cj : j < S.n
      · rw [old cj, new] at e
        exact absurd e.symm (apart cj (by omega))
      · obtain ⟨j', rfl⟩ := Nat.exists_eq_add_of_le (Nat.le_of_not_lt cj)
        rw [new, new] at e
        rw [rh1.inj i' j' (by omega) (by omega) e]
  · rw [a1] at hi ⊢
    by_cases ci : i < S.n
    · obtain ⟨o, u, e1, e2, e3⟩ := rh.all i ci
      rw [old ci]
      exact ⟨o, u, (a2 i ci).trans e1, keep e2, e3.monoW lw⟩
    · obtain ⟨i', rfl⟩ := Nat.exists_eq_add_of_le (Nat.le_of_not_lt ci)
      obtain ⟨o, u, e1, e2, e3⟩ := rh1.all i' (by omega)
      rw [new]
      exact ⟨shO S.n o, u, a3 i' o (by omega) (by rw [Nat.zero_add]; exact e1), e2, e3.sh⟩
  · rw [a1] at h2
    obtain ⟨i', rfl⟩ := Nat.exists_eq_add_of_le h1
    rw [new]
    exact le.nw i' (Nat.zero_le _) (by omega)
theorem lift_aft {S : Hs} {Q : VK} {E : XK} {r : Rs AV} (rh : RH K G ι S H) (h : Aft K G (fun ι m H (x : AV) (v : V) => RV K G ι m H x v) Q E ι S H (liftG S r)) : Aft K G (fun ι m H (x : AV) (v : V) => RV K G ι m H x v) Q E ι ⟨.nil, 0⟩ H r := by
  cases r with
  | bad => exact h
  | exc x S1 => exact h.elim
  | ok v S1 =>
    intro ι1 H' w rh1 le rv
    obtain ⟨r1, r2⟩ := lift_rh rh rh1 le
    refine h _ H' w r1 r2 ?_
    have a1 : (appH S S1).n = S.n + S1.n := (appG_get (m := S.n) (g := S1.get) S1.n 0 S).1
    rw [a1]
    exact rv.sh
end
/-- what a def's row gives -/
def StepOk (prog : Program) (w : World) (K : PySem.W.Frag) (mg : Str → Option Value) (G : Gx) (f : Str × Option Str) (fb : Fb) (ks : List Str) : Prop :=
  ∃ fd ps, BdG K fd ps ks ∧ PySem.W.keepIn K (.ref (He.fAd K f)) = true ∧ ps.length = fb.np ∧ ∀ base C d, FnsOk prog w K mg base G C d → FnG prog w K mg base (CX prog w) (d + 2) (He.fAd K f) fd ps (spR K G C fb)
theorem fns_ok {fbs : List Fb} (st : ∀ (k : Nat) (f : Str × Option Str), G.fns[k]? = some f → ∃ fb, fbs[k]? = some fb ∧ StepOk prog w K mg G f fb (kwOf G k)) : ∀ d, FnsOk prog w K mg base G (callN G fbs d) (2 * d)
  | 0 => fun k f hk => by
    obtain ⟨fb, h1, fd, ps, hb, kp, hl, h2⟩ := st k f hk
    refine ⟨fd, ps, ⟨fun vs H Q E h => ?_, fun A outer s H args us vs Q E _ _ _ _ _ h => ?_⟩, hb, kp⟩
    · obtain ⟨ι, S, vs, _, _, h⟩ := h; exact h.elim
    · obtain ⟨ι, S, vs, _, _, h⟩ := h; exact h.elim
  | d + 1 => fun k f hk => by
    obtain ⟨fb, h1, fd, ps, hb, kp, hl, h2⟩ := st k f hk
    refine ⟨fd, ps, (h2 base (callN G fbs d) (2 * d) (fns_ok st d)).imp fun vs H Q E h => ?_, hb, kp⟩
    obtain ⟨ι, S, vs', rh, rv, h⟩ := h
    have e : callN G fbs (d + 1) k vs' S = if (G.grd.contains k && noRefs vs') = true then liftG S (runFn ⟨G, callN G fbs d⟩ fb vs' ⟨.nil, 0⟩) else runFn ⟨G, callN G fbs d⟩ fb vs' S := by
      show (match fbs[k]? with | some f => if (G.grd.contains k && noRefs vs') = true then liftG S (runFn ⟨G, callN G fbs d⟩ f vs' ⟨.nil, 0⟩) else runFn ⟨G, callN G fbs d⟩ f vs' S | none => .bad) = _
      rw [h1]
    have h' : Aft K G (fun ι m H (x : AV) (v : V) => RV K G ι m H x v) Q E ι S H (callN G fbs (d + 1) k vs' S) := h
    rw [e] at h'
    by_cases c : (G.grd.contains k && noRefs vs') = true
    · rw [if_pos c] at h'
      rw [Bool.and_eq_true] at c
      exact ⟨ι, ⟨.nil, 0⟩, vs', ⟨fun i j hi => absurd hi (Nat.not_lt_zero _), fun i hi => absurd hi (Nat.not_lt_zero _)⟩, rv.nr c.2, lift_aft rh h'⟩
    · rw [if_neg c] at h'
      exact ⟨ι, S, vs', rh, rv, h'⟩
theorem fnG_of {CX : CXT} {k : Nat} {f : Addr} {name qual : Str} {params : Arguments} {body : List Stmt} {scope : Scope} {dV kV doc pm cdv ct oc : Value} {an od : Option Addr} {osl : Array (Option Value)} {N ps : List Str} {sp : Sp}
    (lk : K.lookup f = some ⟨oc, od, .func (PySem.W.fnOf name qual params body scope dV kV doc pm an cdv ct), osl⟩) (hcd : PySem.W.codeIn K cdv qual = true) (S : FnScope N ps scope) (len : ∀ vs H Q E, sp vs H Q E → vs.length = ps.length)
    (hbody : ∀ (A : Around) (outer : List Env) (s : Shared) (H : Hp) (vs : List V) (Q : VK) (E : XK), Room k (A.deeper (PyProof.Rows.envOfC qual scope s.heap.objs.size f cdv)) → A.guards = some [] → sp vs H Q E →
      ∃ t, PSs (cxOf CX prog w K mg base N qual scope f cdv A outer s H E) body t ∧ t { nx := fun _ H' => Q .non H', rt := Q } (L2.start N vs) H) :
    FnG prog w K mg base CX (k + 1) f (PySem.W.fnOf name qual params body scope dV kV doc pm an cdv ct) ps sp := by
  refine ⟨len, fun A outer s H args us vs Q E room gd e0 bd r hsp => ?_⟩
  have kp0 : ∀ b o, base.get? b = some o → s.heap.get? b = some o := fun b o e => (e0.bs b o e).1
  have KX : K.In s.heap := e0.mod.kin.keeps kp0
  have kinds : ∀ y ∈ ps.zip us, scope.names.lookup y.1 = some .local ∨ (scope.names.lookup y.1 = some .cell ∧ ((cellsFrom (s.heap.objs.size + 1) scope.names []).lookup y.1).isSome = true) := fun y hy => by
    cases S.par y.1 (List.of_mem_zip (a := y.1) (b := y.2) hy).1 with
    | inl q => exact .inl q
    | inr q => exact .inr ⟨q, PySem.W.cellsFrom_some _ _ _ (.inl q)⟩
  refine codeAny_call_function room.depth (KX _ _ lk) rfl S.co S.gen rfl (PySem.W.codeRec_of KX hcd) (bd _ _ _ _ (wpAny_newFunctionEnv_cells S.kind kinds fun env he s1 x => ?_))
  subst he
  refine ⟨(e0.mod.nolimit.keeps kp0).keeps x.toInCall.keep, codeAny_func ?_⟩
  obtain ⟨t, ht, hq⟩ := hbody A outer s H vs Q E (room.deeper _) gd hsp
  have I := inv_start (CX := CX) (E := E) S room.hd e0 (len _ _ _ _ hsp) r x
  refine wpAny_mono (ht.run [] s1 _ H _ I hq) (fun fl s' q => ?_) fun e s' q => q
  have out : ∀ {σ' : L2.St} {H' : Hp} {v : V} {u : Value}, Inv (cxOf CX prog w K mg base N qual scope f cdv A outer s H E) [] σ' H' s' → RelV v u → Q v H' → L2.CE outer prog w H s Q u s' :=
    fun {σ' H' v u} J rv qq => ⟨v, H', J.os, J.bare, J.base, J.hok, rv, qq⟩
  match fl, q with
  | .ret u, ⟨v, σ', H', J, rv, q⟩ => exact out J rv q
  | .next, ⟨σ', H', J, q⟩ => exact out (v := .non) (u := .none) J rfl q
  | .brk, ⟨_, _, _, q⟩ => exact q.elim
  | .cont, ⟨_, _, _, q⟩ => exact q.elim
structure Fu where
  f : Str × Option Str
  name : Str
  qual : Str
  ar : List Arg
  body : List Stmt
  scope : Scope
  N : List Str
def Fu.ps (u : Fu) : List Str := u.ar.map (·.arg)
def Fu.par (u : Fu) : Arguments := ⟨[], u.ar, none, [], [], none, []⟩
def Fu.ct (u : Fu) (G : Gx) : Ct := ⟨G, u.scope, u.N, true, []⟩
def fuel : Nat := 60
def Fu.fb (u : Fu) (G : Gx) : Fb := ⟨u.N.length, u.ps.length, (cSs (cS fuel (u.ct G)) u.body).1⟩
def Fu.ok (u : Fu) : Bool := decide (u.scope.kind = .function) && !u.scope.isCoroutine && !u.scope.isGenerator && decide u.N.Nodup && decide (u.N.take u.ps.length = u.ps) && u.ps.all (fun x => decide (u.scope.names.lookup x = some .local) || decide (u.scope.names.lookup x = some .cell)) && u.scope.names.all (fun y => y.2 != .free)
theorem Fu.sc {u : Fu} (h : u.ok = true) : FnScope u.N u.ps u.scope := by
  unfold Fu.ok at h
  simp only [Bool.and_eq_true] at h
  obtain ⟨⟨⟨⟨⟨⟨h1, h2⟩, h3⟩, h4⟩, h5⟩, h6⟩, h7⟩ := h
  refine ⟨of_decide_eq_true h1, by simpa using h2, by simpa using h3, of_decide_eq_true h4, of_decide_eq_true h5, fun x hx => ?_, fun y hy e => ?_⟩
  · have q := List.all_eq_true.mp h6 x hx
    rw [Bool.or_eq_true] at q
    rcases q with q | q
    · exact .inl (of_decide_eq_true q)
    · exact .inr (of_decide_eq_true q)
  · have q := List.all_eq_true.mp h7 y hy
    rw [e] at q
    exact absurd q (by decide)
theorem start_re {ι : Nat → Addr} {m : Nat} {H : Hp} {N : List Str} {vs : List AV} {ws : List V} (r : RVs K G ι m H vs ws) : RE K G ι m H (vs.map some ++ List.replicate (N.length - vs.length) none) (start N ws) := by
  have hl := r.length
  refine ⟨fun i x e => ?_, by simp [L2.start, hl]⟩
  by_cases c : i < vs.length
  · rw [List.getElem?_append_left (by simpa using c), List.getElem?_map] at e
    cases q : vs[i]? with
    | none => rw [q] at e; cases e
    | some y =>
      rw [q] at e
      have e' : y = x := by simpa using e
      subst e'
      obtain ⟨v, h1, h2⟩ := r.get q
      refine ⟨v, ?_, h2⟩
      unfold L2.start
      rw [List.getElem?_append_left (by simpa using (hl ▸ c)), List.getElem?_map, h1]
      rfl
  · rw [List.getElem?_append_right (by simpa using Nat.le_of_not_lt c)] at e
    rw [List.getElem?_replicate] at e
    split at e <;> simp at e
theorem Fu.step' {u : Fu} (b : MB G K mg) (h : u.ok = true) (F : ∃ fd, FunD K u.name u.qual u.par u.body u.scope [] [] (He.fAd K u.f) fd) : ∃ fd, BdG K fd u.ps [] ∧ PySem.W.keepIn K (.ref (He.fAd K u.f)) = true ∧ u.ps.length = (u.fb G).np ∧ ∀ base C d, FnsOk prog w K mg base G C d → FnG prog w K mg base (CX prog w) (d + 2) (He.fAd K u.f) fd u.ps (spR K G C (u.fb G)) := by
  obtain ⟨fd, F⟩ := F
  have S := Fu.sc h
  have nd : u.ps.Nodup := by rw [← S.pre]; exact S.nd.sublist (List.take_sublist _ _)
  refine ⟨fd, .of (F.bindsN fun _ _ _ _ _ _ us hl => bind_plain hl nd), F.kp, rfl, fun base C d fns => ?_⟩
  obtain ⟨oc, od, dV, kV, doc, pm, an, cdv, ct, osl, rfl, lk, hcd, _, _⟩ := F.ex
  refine fnG_of (k := d + 1) lk hcd S (fun vs H Q E h => ?_) (fun A outer s H ws Q E hr gd hsp => ?_)
  · exact spR_len h
  · generalize hX : cxOf (CX prog w) prog w K mg base u.N u.qual u.scope (He.fAd K u.f) cdv A outer s H E = X
    refine ⟨tWss X u.body, pssW, ?_⟩
    have fit : Fit (u.ct G) C d (fun c d _ H => E c d H) X := by
      subst hX
      exact ⟨⟨mf_of b fns, rfl, S.nd, hr, takes_of rfl rfl rfl rfl, passes_of rfl, deeper_guards.trans gd⟩, rfl, rfl, (fun _ _ _ => rfl), fun _ h => nomatch h⟩
    obtain ⟨ι, S0, vs, rh, rv, h⟩ := hsp
    have hK : X.K = K := by subst hX; rfl
    unfold runFn at h
    split at h
    · refine (cSs (cS fuel (u.ct G)) u.body).2 C d _ X depth0 fit ι S0 (vs.map some ++ List.replicate (u.N.length - vs.length) none) (start u.N ws) H _ (by rw [hK]; exact rh) (by rw [hK]; exact start_re rv) ?_
      have h' : Aft K G (fun ι m H (x : AV) (v : V) => RV K G ι m H x v) Q E ι S0 H (match exs (fun s ρ S => ex ⟨G, C⟩ depth0 s ρ S) (cSs (cS fuel (u.ct G)) u.body).1 (vs.map some ++ List.replicate (u.N.length - vs.length) none) S0 with
        | .fl (.nx _) S' => .ok .non S'
        | .fl (.rt v) S' => .ok v S'
        | .exc x _ S' => .exc x S'
        | _ => .bad) := h
      show AftR ⟨G, C⟩ (fun c d _ H => E c d H) X _ ι S0 H (exs (fun s ρ S => ex ⟨G, C⟩ depth0 s ρ S) (cSs (cS fuel (u.ct G)) u.body).1 (vs.map some ++ List.replicate (u.N.length - vs.length) none) S0)
      cases e : exs (fun s ρ S => ex ⟨G, C⟩ depth0 s ρ S) (cSs (cS fuel (u.ct G)) u.body).1 (vs.map some ++ List.replicate (u.N.length - vs.length) none) S0 with
      | bad => rw [e] at h'; exact h'.elim
      | exc x ρ S' =>
        rw [e] at h'
        intro ι' H' σ' c d' rh' le' re' rx
        rw [hK] at rh' le' rx
        exact h' ι' H' c d' rh' le' rx
      | fl f S' =>
        rw [e] at h'
        cases f with
        | nx ρ =>
          intro ι' H' σ' rh' le' re'
          rw [hK] at rh' le'
          exact h' ι' H' .non rh' le' .non
        | rt v =>
          intro ι' H' w' rh' le' rv'
          rw [hK] at rh' le' rv'
          exact h' ι' H' w' rh' le' rv'
        | bk ρ => exact h'.elim
        | ct ρ => exact h'.elim
    · exact h.elim
theorem Fu.step {u : Fu} (b : MB G K mg) (h : u.ok = true) (F : ∃ fd, FunD K u.name u.qual u.par u.body u.scope [] [] (He.fAd K u.f) fd) : StepOk prog w K mg G u.f (u.fb G) [] := by
  obtain ⟨fd, h1, h2, h3, h4⟩ := Fu.step' (prog := prog) (w := w) b h F
  exact ⟨fd, u.ps, h1, h2, h3, h4⟩
end
end Ab

namespace Ab
open PySem L2
mutual
def cstB (K : PySem.W.Frag) : Nat → AV → Value → Bool
  | 0, _, _ => false
  | n + 1, v, u => match v, u with
    | .non, .none => true
    | .bl b, .bool c => b == c
    | .int i, .int j _ => decide (i = j)
    | .str x, .str y _ => decide (x = y)
    | .tup xs, .ref a => (match K.lookup a with
      | some ⟨.type c, _, .seq its _, _⟩ => decide (c = "tuple") && (decide (its.size ≤ sizeLine) && cstBs K n xs its.toList)
      | _ => false)
    | _, _ => false
def cstBs (K : PySem.W.Frag) : Nat → List AV → List Value → Bool
  | 0, _, _ => false
  | _ + 1, [], [] => true
  | n + 1, x :: xs, u :: us => cstB K n x u && cstBs K n xs us
  | _ + 1, _, _ => false
end
section
variable {K : PySem.W.Frag} {G : Gx}
theorem cst_ok : ∀ n, (∀ (v : AV) (u : Value), cstB K n v u = true → ∃ w, RelV w u ∧ ∀ ι m H, RV K G ι m H v w) ∧ (∀ (v : List AV) (u : List Value), cstBs K n v u = true → ∃ w, Vals w u ∧ ∀ ι m H, RVs K G ι m H v w)
  | 0 => ⟨(fun v u h => by unfold cstB at h; exact nomatch h), (fun v u h => by unfold cstBs at h; exact nomatch h)⟩
  | n + 1 => by
    obtain ⟨h1, h2⟩ := cst_ok n
    refine ⟨fun v u h => ?_, fun v u h => ?_⟩
    · unfold cstB at h
      split at h
      · exact ⟨.non, rfl, fun _ _ _ => .non⟩
      · rename_i b c
        have e : b = c := eq_of_beq h
        exact ⟨.bl b, by rw [e]; rfl, fun _ _ _ => .bl b⟩
      · rename_i i j t
        have e : i = j := of_decide_eq_true h
        exact ⟨.int i, ⟨t, by rw [e]⟩, fun _ _ _ => .int i⟩
      · rename_i i j t
        have e : i = j := of_decide_eq_true h
        exact ⟨.str i, ⟨t, by rw [e]⟩, fun _ _ _ => .str i⟩
      · rename_i xs a
        split at h
        · rename_i c od its k sl lk
          rw [Bool.and_eq_true, Bool.and_eq_true] at h
          obtain ⟨e1, e2, e3⟩ := h
          obtain ⟨ws, hv, hr⟩ := h2 xs its.toList e3
          have ec := of_decide_eq_true e1
          subst ec
          exact ⟨.ref a, rfl, fun ι m H => .tup (.inr ⟨_, its, k, lk, rfl, rfl, of_decide_eq_true e2, hv⟩) (hr ι m H)⟩
        · cases h
      · cases h
    · unfold cstBs at h
      split at h
      · cases ‹(_ : Nat) = _›
      · exact ⟨[], .nil, fun _ _ _ => .nil⟩
      · rename_i x xs u us e
        cases e
        rw [Bool.and_eq_true] at h
        obtain ⟨w, r1, r2⟩ := h1 x u h.1
        obtain ⟨ws, r3, r4⟩ := h2 xs us h.2
        exact ⟨w :: ws, .cons r1 r3, fun ι m H => .cons (r2 ι m H) (r4 ι m H)⟩
      · cases h
def tys (G : Gx) : List Ty := [.b .non, .b .bool, .b .int, .b .str, .b .tuple, .b .list, .b .dict, .b .verr, .b .lerr] ++ (List.range G.cls.length).map .c
theorem tys_b {t : Bty} : Ty.b t ∈ tys G := by
  unfold tys
  cases t <;> simp
def isiB (K : PySem.W.Frag) (G : Gx) : Bool := (tys G).all fun t => (tys G).all fun u => match isTy G t u with
  | some b => decide (PySem.W.kitOne K (tyVal K G t) (tyVal K G u) = some b)
  | none => true
/-- an own exception class -/
def xcB1 (K : PySem.W.Frag) (C : Addr) (B newId initId : String) (bmB : List Value) : Bool :=
  PySem.W.excInitIn K C bmB newId && (PySem.W.excOver K C bmB && (He.eqO (PySem.W.ks_superIn K C C "__init__") (some (some (.builtin initId))) && (decide (PySem.W.subIn K (.ref C) (.type B) = some true) &&
  (He.eqO (PySem.W.findIn K (.ref C) "__setattr__") (some (some (.builtin "object.__setattr__"))) && (decide (PySem.W.subIn K (.ref C) (.type "BaseException") = some true) && (PySem.W.keepIn K (.ref C) && (He.eqO (PySem.W.findIn K (.ref C) "__getattribute__") (some (some (.builtin "BaseException.__getattribute__"))) &&
  (He.eqO (PySem.W.findIn K (.ref C) "__getattr__") (some none) && (PySem.W.hasDictIn K C && (He.eqO (PySem.W.findIn K (.ref C) "__class__") (some (some (.builtin "object.__class__"))) && (decide (PySem.W.mroIn K C (.type "object") = some true) && decide (PySem.W.mroIn K C (.ref C) = some true))))))))))))
theorem xcB1_ok {C : Addr} {B newId initId : String} {bmB : List Value} (bs : Bs B newId initId bmB) (h : xcB1 K C B newId initId bmB = true) : Xc K C B newId initId bmB := by
  unfold xcB1 at h
  simp only [Bool.and_eq_true] at h
  obtain ⟨h1, h2, h3, h4, h5, h6, h7, h8, h9, h10, h11, h12, h13⟩ := h
  exact ⟨bs, h1, h2, He.eqO_ok h3, of_decide_eq_true h4, He.eqO_ok h5, of_decide_eq_true h6, h7, He.eqO_ok h8, He.eqO_ok h9, h10, He.eqO_ok h11, of_decide_eq_true h12, of_decide_eq_true h13⟩
def xcB (K : PySem.W.Frag) (G : Gx) (c : Cl) : Bool :=
  (match c.xb with
    | 1 => xcB1 K (He.ga K c.name) "ValueError" "ValueError.__new__" "ValueError.__init__" [.type "ValueError", .type "Exception", .type "BaseException", .type "object"]
    | 2 => xcB1 K (He.ga K c.name) "LookupError" "LookupError.__new__" "LookupError.__init__" [.type "LookupError", .type "Exception", .type "BaseException", .type "object"]
    | _ => false) && (c.xf.all (fun f => match G.nms[f]? with
    | some x => He.eqO (PySem.W.findIn K (.ref (He.ga K c.name)) x) (some none)
    | none => false) && (match c.xi with
    | none => true
    | some i => (match G.fns[i]? with
      | some fa => decide (kwOf G i = []) && (He.eqO (PySem.W.findIn K (.ref (He.ga K c.name)) "__init__") (some (some (.ref (He.fAd K fa)))) && PySem.W.isFn K (.ref (He.fAd K fa)))
      | none => false)))
theorem xcB_ok {c : Cl} (h : xcB K G c = true) : XcF K G c := by
  unfold xcB at h
  simp only [Bool.and_eq_true] at h
  obtain ⟨h1, h2, h3⟩ := h
  refine ⟨?_, fun f hf => ?_, fun i hi => ?_⟩
  · split at h1
    · exact ⟨_, _, _, _, xcB1_ok bs_VE h1⟩
    · exact ⟨_, _, _, _, xcB1_ok bs_LE h1⟩
    · cases h1
  · have q := List.all_eq_true.mp h2 f (by simpa using hf)
    cases e : G.nms[f]? with
    | none => rw [e] at q; cases q
    | some x => rw [e] at q; exact ⟨x, rfl, He.eqO_ok q⟩
  · rw [hi] at h3
    cases e : G.fns[i]? with
    | none => simp only [e] at h3; cases h3
    | some fa =>
      simp only [e, Bool.and_eq_true] at h3
      exact ⟨fa, rfl, of_decide_eq_true h3.1, He.eqO_ok h3.2.1, beq_iff_eq.mp h3.2.2⟩
/-- the whole of it -/
def mbB (G : Gx) (K : PySem.W.Frag) : Bool :=
  bltN.all (fun x => (He.Fa.free x).ok K) && (G.fns.all (fun f => match f.2 with
    | none => (He.Fa.glo f.1).ok K
    | some _ => true) &&
  (G.cls.all (fun c => (He.Fa.glo c.name).ok K && (c.flds.all (fun f => match G.nms[f]? with
      | some x => (He.Fa.noat c.name x).ok K && (He.Fa.cls c.name).ok K
      | none => false) && ((!c.plain || ((He.Fa.cls c.name).ok K && (He.eqO (PySem.W.findIn K (.ref (He.ga K c.name)) "__class__") (some (some (.builtin "object.__class__"))) && decide (PySem.W.mroIn K (He.ga K c.name) (.type "object") = some true)))) &&
      c.meths.all (fun p => match G.nms[p.1]?, G.fns[p.2]? with
        | some x, some fa => (He.Fa.meth c.name x).ok K && ((He.Fa.cls c.name).ok K && (decide (He.fAd K fa = He.ma K (He.ga K c.name) x) && decide (kwOf G p.2 = [])))
        | _, _ => false) && (match c.ini with
        | none => true
        | some i => (match G.fns[i]? with
          | some fa => (He.Fa.mkr c.name).ok K && decide (He.fAd K fa = He.ma K (He.ga K c.name) "__init__")
          | none => false))))) &&
  (decide G.nms.Nodup && (isiB K G && (G.cons.all (fun c => match PySem.W.nsIn K mainGlobals c.1 with
    | some (some u) => cstB K 40 c.2 u
    | _ => false) && (decide (PySem.W.specialIn K (.builtin "object.__class__") "__get__" = some (some (.builtin "getset_descriptor.__get__")) ∧ PySem.W.takesIn K (.builtin "object.__class__") = some true) && G.cls.all (fun c => decide (c.xb = 0) || xcB K G c)))))))
theorem lookup_mem' {α β : Type} [BEq α] [LawfulBEq α] {k : α} {v : β} : ∀ {l : List (α × β)}, l.lookup k = some v → (k, v) ∈ l
  | [], h => by cases h
  | (a, b) :: r, h => by
    rw [List.lookup_cons] at h
    cases q : k == a with
    | true => rw [q] at h; cases h; rw [eq_of_beq q]; exact List.mem_cons_self
    | false => rw [q] at h; exact List.mem_cons_of_mem _ (lookup_mem' h)
theorem mb_of {h : Heap} {mg : Str → Option Value} (X : K.In h) (N : h.Ns mainGlobals mg) (c : mbB G K = true) : MB G K mg := by
  unfold mbB at c
  simp only [Bool.and_eq_true] at c
  obtain ⟨c1, c2, c3, c4, c5, c6, c7, c8⟩ := c
  have hc : ∀ (k : Nat) (c : Cl), G.cls[k]? = some c → _ := fun k c hk => List.all_eq_true.mp c3 c (List.mem_of_getElem? hk)
  refine ⟨fun x hx => He.free_ok X N (List.all_eq_true.mp c1 x hx), fun k x hk => He.glo_ok X N (List.all_eq_true.mp c2 _ (List.mem_of_getElem? hk)), fun k c hk => ?_, fun k f c hk hf => ?_, of_decide_eq_true c4, fun k c hk hp => ?_, of_decide_eq_true c7, fun t u b e => ?_, fun k x v hk => ?_, fun f k i x c hx hk hm => ?_, fun k i c hk hi => ?_, fun k c hk hx => ?_⟩
  · have q := hc k c hk
    simp only [Bool.and_eq_true] at q
    exact He.glo_ok X N q.1
  · have q := hc k c hk
    simp only [Bool.and_eq_true] at q
    have q2 := List.all_eq_true.mp q.2.1 f (by simpa using hf)
    cases e : G.nms[f]? with
    | none => rw [e] at q2; cases q2
    | some x =>
      rw [e] at q2
      have q3 : ((He.Fa.noat c.name x).ok K && (He.Fa.cls c.name).ok K) = true := q2
      rw [Bool.and_eq_true] at q3
      exact ⟨x, rfl, He.noat_ok q3.1, He.cls_ok q3.2⟩
  · have q := hc k c hk
    simp only [Bool.and_eq_true] at q
    have q2 := q.2.2.1.1
    rw [hp] at q2
    simp only [Bool.not_true, Bool.false_or, Bool.and_eq_true] at q2
    exact ⟨He.cls_ok q2.1, He.eqO_ok q2.2.1, of_decide_eq_true q2.2.2⟩
  · have ht : ∀ t u : Ty, isTy G t u = some b → t ∈ tys G ∧ u ∈ tys G := by
      intro t u e
      have hcl : ∀ {j : Nat} {c : Cl}, G.cls[j]? = some c → Ty.c j ∈ tys G := fun {j c} hj => by
        have := (List.getElem?_eq_some_iff.mp hj).1
        unfold tys
        simp [this]
      cases t with
      | b t =>
        refine ⟨tys_b, ?_⟩
        cases u with
        | b u => exact tys_b
        | c j =>
          have e' : (if (G.cls[j]?).isSome then some false else none) = some b := e
          cases q : G.cls[j]? with
          | none => rw [q] at e'; cases e'
          | some _ => exact hcl q
      | c k =>
        cases u with
        | b u =>
          unfold isTy at e
          cases q : G.cls[k]? with
          | none => simp only [q] at e; cases e
          | some _ => exact ⟨hcl q, tys_b⟩
        | c j =>
          have e' : (match G.cls[k]?, G.cls[j]? with
            | some c, some _ => some (c.sup.contains j)
            | _, _ => none) = some b := e
          cases q : G.cls[k]? with
          | none => rw [q] at e'; cases e'
          | some _ =>
            cases q2 : G.cls[j]? with
            | none => rw [q, q2] at e'; cases e'
            | some _ => exact ⟨hcl q, hcl q2⟩
    obtain ⟨t1, t2⟩ := ht t u e
    have q := List.all_eq_true.mp (List.all_eq_true.mp c5 t t1) u t2
    rw [e] at q
    exact of_decide_eq_true q
  · have q := List.all_eq_true.mp c6 _ (List.mem_of_getElem? hk)
    cases e : PySem.W.nsIn K mainGlobals x with
    | none => rw [e] at q; cases q
    | some o =>
      cases o with
      | none => rw [e] at q; cases q
      | some u =>
        rw [e] at q
        obtain ⟨w, h1, h2⟩ := (cst_ok (G := G) 40).1 v u q
        exact ⟨u, w, PySem.W.mg_of X N e, h1, h2⟩
  · have q := hc k c hk
    simp only [Bool.and_eq_true] at q
    have q2 := List.all_eq_true.mp q.2.2.1.2 _ (lookup_mem' hm)
    rw [hx] at q2
    cases e : G.fns[i]? with
    | none => simp only [e] at q2; cases q2
    | some fa =>
      simp only [e, Bool.and_eq_true] at q2
      refine ⟨fa, rfl, ?_, He.cls_ok q2.2.1, of_decide_eq_true q2.2.2.2⟩
      rw [of_decide_eq_true q2.2.2.1]
      exact He.meth_ok q2.1
  · have q := hc k c hk
    simp only [Bool.and_eq_true] at q
    have q2 := q.2.2.2
    rw [hi] at q2
    cases e : G.fns[i]? with
    | none => simp only [e] at q2; cases q2
    | some fa =>
      simp only [e, Bool.and_eq_true] at q2
      refine ⟨fa, rfl, ?_⟩
      rw [of_decide_eq_true q2.2]
      exact He.mkr_ok q2.1
  · have q := List.all_eq_true.mp c8 c (List.mem_of_getElem? hk)
    rcases Bool.or_eq_true_iff.mp q with z | z
    · exact absurd (of_decide_eq_true z) hx
    · exact xcB_ok z
end
def noLst (K : PySem.W.Frag) : Bool := K.all fun p => !decide (p.2.cls = .type "list")
theorem noLst_ok {K : PySem.W.Frag} (h : noLst K = true) {a : Addr} {o : Obj} (e : K.lookup a = some o) : o.cls ≠ .type "list" := fun q => by
  have z := List.all_eq_true.mp h (a, o) (lookup_mem' e)
  have z' : (!decide (o.cls = .type "list")) = true := z
  rw [decide_eq_true q] at z'
  cases z'
abbrev AlA : Type := He.AlD × Bool
def obsA (n : Nat) (fn : List He.DefD) (ex : PySem.W.Frag → Bool) (g : Addr → Option Obj) : AlA := (He.obsDG n [] fn g, ex (He.frG g (He.asD g n)))
def hookA (n : Nat) (fn : List He.DefD) (ex : PySem.W.Frag → Bool) : PySem.W.Hook where
  α := AlA
  obs := fun s => obsA n fn ex s.heap.get?
  val := fun _ => (He.valD fn, true)
  says := fun _ h => ∃ K : PySem.W.Frag, K.In h ∧ He.SaysD [] fn K ∧ ex K = true
  of := fun _ _ e => ⟨_, He.frG_in, congrArg (fun z : AlA => z.1) e, congrArg (fun z : AlA => z.2) e⟩
  keeps := fun _ _ _ ⟨K, hK, c⟩ k => ⟨K, PySem.W.Frag.In.keeps hK k, c⟩
theorem obsA_eq {n : Nat} {fn : List He.DefD} {ex : PySem.W.Frag → Bool} {g : Addr → Option Obj} {s : Shared} (h : ∀ a, g a = s.heap.get? a) : obsA n fn ex g = (hookA n fn ex).obs s := by
  have e : g = s.heap.get? := funext h
  rw [e] <;> rfl
end Ab

namespace Ab
open PySem L2
def S0 (ns : List Int) : Hs := Hs.push ⟨.nil, 0⟩ (.lck (.lst (ns.map .int)))
theorem RVs_ints {K : PySem.W.Frag} {G : Gx} {ι : Nat → Addr} {m : Nat} {H : Hp} : ∀ ns : List Int, RVs K G ι m H (ns.map .int) (ns.map V.int)
  | [] => .nil
  | i :: r => .cons (.int i) (RVs_ints r)
theorem sp_law {K : PySem.W.Frag} {G : Gx} {C : Nat → List AV → Hs → Rs AV} {k : Nat} {H : Hp} {a : Addr} {ns : List Int} (nl : noLst K = true) (hO : Only H) (hS : SqL K H a (ns.map V.int)) {S' : Hs} (h : C k [.ref 0] (S0 ns) = .ok (.bl true) S') :
    spC K ⟨G, C⟩ k [.ref a] H (fun v _ => v = .bl true) fun _ _ _ => False := by
  have hf : ∃ o, H a = some (.frz o (.lst (ns.map V.int))) := by
    rcases hS with (h | h) | ⟨o, its, n, lk, hc, _⟩
    · rcases hO a with q | ⟨o, xs, q⟩
      · rw [h] at q; cases q
      · rw [h] at q; cases q
    · exact h
    · exact absurd hc (noLst_ok nl lk)
  obtain ⟨o, e⟩ := hf
  refine ⟨fun _ => a, S0 ns, [.ref 0], ⟨fun i j hi hj _ => ?_, fun i hi => ?_⟩, .cons (.ref (ι := fun _ => a) (Nat.lt_succ_self 0)) .nil, ?_⟩
  · have : (S0 ns).n = 1 := rfl
    omega
  · have : (S0 ns).n = 1 := rfl
    have e0 : i = 0 := by omega
    subst e0
    exact ⟨_, _, Hs.get_push_self _ _, e, .lck (.lst (RVs_ints ns))⟩
  · show Aft K G _ _ _ _ _ _ (C k [.ref 0] (S0 ns))
    rw [h]
    intro ι' H' w' _ _ rv
    cases rv
    rfl
end Ab

namespace Ab
open PySem L2
section
variable {P : Pe} {d n m : Nat} {W : WX} {X : Cx} {pos : Pos} {a b c : E} {xa xb xc : Expr}
theorem sup_eq {xo : Expr} {x : Str} {xs : List Expr} {apos : Pos} {env : Env} (hs : xs.all (fun x => !isStarX x) = true) (hn : xs.length < 30) (hl : (apos.endLine == pos.line) = true) :
    ∃ pl : Sem Bool, eval (.Call (.Attribute xo x apos) xs [] pos) env = (do
      let ov ← attributeBase xo x env (eval xo env)
      standAt apos.atName
      let (f, first) ← holding [ov] (getMethod ov x pl)
      callWith pos f first (backTo pos (starEach xs env)) []) := by
  refine ⟨(do return (← importBound xo env).getD true), ?_⟩
  show (do
    let ov ← attributeBase xo x env (eval xo env)
    standAt apos.atName
    methodCall xo x apos pos env ov (xs.length + ([] : List Keyword).length) (backTo pos (starEach xs env)) (backToKw pos (keywordEach [] env))) = _
  congr 1
  funext ov
  congr 1
  funext _
  unfold methodCall calleeOf methodCallPos
  rw [fewOk hs hn, hl]
  rfl
/-- what is known of a def that says super() -/
structure SupF (K : PySem.W.Frag) (prog : Program) (mg : Str → Option Value) (f cda cc D : Addr) (scope : Scope) (slf : Str) : Prop where
  fn : ∃ (oc : Value) (od : Option Addr) (fd : FuncData) (osl : Array (Option Value)) (ar : Arg), K.lookup f = some ⟨oc, od, .func fd, osl⟩ ∧ (fd.params.posonlyargs ++ fd.params.args).head? = some ar ∧ ar.arg = slf
  code : ∃ (ccl : Value) (cdd : Option Addr) (vs : Array Value) (ccs : Array (Option Value)) (file : Str) (tf : Tok), K.lookup cda = some ⟨ccl, cdd, .fields vs, ccs⟩ ∧ vs[2]? = some (.str file tf) ∧ ((prog.main.file : Str) == file) = true
  cell : ∃ (cl : Value) (cld : Option Addr) (csl : Array (Option Value)), K.lookup cc = some ⟨cl, cld, .cell (some (.ref D)), csl⟩
  cls : ∃ cdD, PySem.W.clsIn K D = some cdD
  ns : mg "super" = none
  ks : scope.names.lookup ("super" : Str) = some .globalImplicit
  kc : scope.names.lookup ("__class__" : Str) = some .free
  ka : scope.names.lookup slf = some .local
  top : (prog.main.scope.names.lookup ("super" : Str)).isSome = false
  opq : PySem.W.nsIn K cStatics "thirdparty.any" = some none
theorem boot_super : bootBuiltins "super" = some (.type "super") := by decide +kernel
theorem sup_node {pins : List (Addr × Obj)} {σ : L2.St} {H : Hp} {s : Shared} {q : Str} {scope : Scope} {L f cda cc D x C : Addr} {ox : Obj} {self : Str} {body : List Stmt} {p0 p1 : Pos} {whole : Sem Value} {Q : Value → Shared → Prop} (I : Inv X pins σ H s)
    (he : X.env = PySem.W.ksEnv q scope L f (.ref cda) cc) (F : SupF X.K X.prog X.mg f cda cc D scope self) (h0 : X.N[0]? = some self) (hself : σ[0]? = some (some (.ref x))) (hox : s.heap.get? x = some ox) (hxc : ox.cls = .ref C) (hnc : ∀ c, ox.data ≠ .cls c) (hsub : PySem.W.mroIn X.K C (.ref D) = some true)
    (h : ∀ so s', Inv X pins σ H s' → s'.heap.get? so = some (PySem.W.ks_superObj D x C) → s'.heap.get? x = some ox → Q (.ref so) s') :
    _root_.PySem.wpAt (model X.prog X.w) X.A (.func body X.env) (attributeBase (.Call (.Name "super" p0) [] [] p1) "__init__" X.env whole) Q X.xe s := by
  have KX := I.kIn
  have hk : X.env.scope.kind = .function := I.ok.kind
  have hsc : X.env.scope = scope := by rw [he]
  obtain ⟨oc, od, fd, osl, ar, lf, hp, har⟩ := F.fn
  obtain ⟨ccl, cdd, vs, ccs, file, tf, lc, hvs, hfile⟩ := F.code
  obtain ⟨cl, cld, csl, lcell⟩ := F.cell
  obtain ⟨cdD, hD⟩ := F.cls
  obtain ⟨m, hn, hloc⟩ := I.loc
  obtain ⟨u, ru, lk⟩ := hloc 0 self (.ref x) h0 hself (.inl (by rw [hsc]; exact F.ka))
  cases ru
  have hv : m self = some (.ref x) := by
    rcases lk with ⟨_, e⟩ | ⟨e, _⟩
    · exact e
    · have e0 : X.env.kindOf self = some .local := by unfold Env.kindOf; rw [hsc]; exact F.ka
      rcases e with e | e <;> rw [e0] at e <;> cases e
  obtain ⟨oD, hD1, hD2⟩ : ∃ oD, s.heap.get? D = some oD ∧ oD.data = .cls cdD := by
    unfold PySem.W.clsIn at hD
    split at hD
    · rename_i c d cd' sl ho
      cases hD
      exact ⟨_, KX _ _ ho, rfl⟩
    · cases hD
  obtain ⟨mb, hb1, hb2⟩ := I.mod.blt
  have hks : X.env.kindOf "super" = some .globalImplicit := by unfold Env.kindOf; rw [hsc]; exact F.ks
  have hkc : X.env.kindOf "__class__" = some .free := by unfold Env.kindOf; rw [hsc]; exact F.kc
  have hka : X.env.kindOf ar.arg = some .local := by unfold Env.kindOf; rw [hsc, har]; exact F.ka
  refine ks_wpAt_super_base hks hkc rfl (by rw [he]) (KX _ _ lf) rfl hp (by rw [he]) (KX _ _ lc) rfl hvs hfile F.top ?_
  refine PySem.W.ks_loadName_global hk hks (Calls.loadGlobal_builtin (by rw [I.ok.glob]; exact I.mod.glob.keeps I.bk) F.ns (by rw [I.ok.blt]; exact hb1.keeps I.bk) ((hb2 _ (by decide +kernel)).trans boot_super) ⟨rfl, ?_⟩)
  refine wpAny_loadName_free hk hkc (by rw [he]; rfl) ⟨_, KX _ _ lcell, rfl⟩ ?_
  refine wpAny_loadName_local hk hka hn (by rw [har]; exact hv) ?_
  obtain ⟨hh, g, dd, t, os⟩ := s
  refine ks_wpAny_isType_cls hD1 hD2 ⟨rfl, ?_⟩
  refine ks_wpAny_call_super hD1 hD2 hox hxc hnc (PySem.W.looks_mroIn KX hsub) (fun h' e k => ?_)
  exact h _ _ (I.kept (t' := t) k) e (k _ _ hox)
theorem sup_run {pins : List (Addr × Obj)} {σ : L2.St} {H : Hp} {s : Shared} {q : Str} {scope : Scope} {L f cda cc D x C dx f2 : Addr} {fs : List (Str × V)} {self : Str} {body : List Stmt} {p0 p1 ap : Pos} {xs : List Expr} {R : List V → Hp → Prop} {Q : Value → Shared → Prop} (I : Inv X pins σ H s)
    (he : X.env = PySem.W.ksEnv q scope L f (.ref cda) cc) (F : SupF X.K X.prog X.mg f cda cc D scope self) (h0 : X.N[0]? = some self) (hself : σ[0]? = some (some (.ref x))) (hx : H x = some (.ins C dx fs)) (hsub : PySem.W.mroIn X.K C (.ref D) = some true)
    (hm : PySem.W.ks_superIn X.K C D "__init__" = some (some (.ref f2))) (ht : PySem.W.typeIn X.K (.ref f2) = some (.type "function")) (hf2 : PySem.W.fnIn X.K f2 = true)
    (hs : xs.all (fun x => !isStarX x) = true) (hn : xs.length < 30) (hl : (ap.endLine == pos.line) = true) (ha : tWc X xs σ H R)
    (k : ∀ us s1 vs H1, Inv X pins σ H1 s1 → Vals vs us → R vs H1 → codeAny (model X.prog X.w) X.A (.call (.ref f2) ⟨.ref x :: us, []⟩) (wants Q X.xe) s1) :
    _root_.PySem.wpAt (model X.prog X.w) X.A (.func body X.env) (eval (.Call (.Attribute (.Call (.Name "super" p0) [] [] p1) "__init__" ap) xs [] pos) X.env) Q X.xe s := by
  obtain ⟨pl, heq⟩ := sup_eq (pos := pos) (env := X.env) (xo := .Call (.Name "super" p0) [] [] p1) (x := "__init__") hs hn hl
  obtain ⟨_, _, _, hox0, _⟩ : H dx = some (.own x) ∧ fs.length ≤ 1000 ∧ dx ≠ x ∧ s.heap.get? x = some (PySem.W.instObj C dx) ∧ _ := I.hok x _ hx
  refine ks_wpAt_MethodCall (pl := pl) (sup_node I he F h0 hself hox0 rfl (fun c e => by cases e) hsub fun so s1 I1 hso hox => ?_) heq
  have KX := I1.kIn
  cases hc : PySem.W.clsIn X.K C with
  | none => unfold PySem.W.ks_superIn at hm; rw [hc] at hm; cases hm
  | some cd =>
    unfold PySem.W.ks_superIn at hm
    rw [hc] at hm
    obtain ⟨of, hof, hofc⟩ : ∃ of, s1.heap.get? f2 = some of ∧ of.cls = .type "function" := by
      have ht' : (X.K.lookup f2).map (·.cls) = some (.type "function") := ht
      cases z : X.K.lookup f2 with
      | none => rw [z] at ht'; cases ht'
      | some of => rw [z] at ht'; exact ⟨of, KX _ _ z, Option.some.inj ht'⟩
    have hxC : x ≠ C := by
      rintro rfl
      unfold PySem.W.clsIn at hc
      split at hc
      · rename_i c d cd' sl ho
        have e := KX _ _ ho
        rw [hox] at e
        cases e
      · cases hc
    have J := ClX.met_new (g := f2) (C := x) I1
    obtain ⟨hh, g, dd, t, os⟩ := s1
    refine ks_wpAny_getMethod_super hso (PySem.W.looks_opaque KX F.opq) (l₀ := cd.mro) (fun A Q E s k q => wpAny_bind ((PySem.W.looks_clsIn KX hc) A _ E s k (wpAny_pure q))) rfl KX hm hof hofc hxC rfl ?_
    show wpAny _ _ (callWith pos (.ref _) [] (backTo pos (starEach xs X.env)) []) _ _ _
    have fin : ∀ us s2 vs H1, Inv X ((hh.objs.size, PySem.W.methodObj (.ref f2) (.ref x)) :: pins) σ H1 s2 → Vals vs us → R vs H1 → wpAny (model X.prog X.w) X.A (call (.ref hh.objs.size) us) Q X.xe s2 := fun us s2 vs H1 J2 r q2 => by
      exact wpAny_call (ks_codeAny_call_bound (ClX.pin_at J2) (k us s2 vs H1 (ClX.unpin J2) r q2))
    rcases ha with ⟨rfl, qa⟩ | ⟨hne, qa⟩
    · exact PySem.W.callWith_M0 ⟨ClX.pin_at J, J.kIn⟩ hf2 (fin [] _ [] H J .nil qa)
    · cases xs with
      | nil => exact absurd rfl hne
      | cons y ys =>
        rw [List.all_cons, Bool.and_eq_true] at hs
        have e1 := starEach_cons (env := X.env) (xs := ys) (x := y) (by simpa using hs.1)
        have e2 := noStars (env := X.env) (pos := pos) hs.2
        have hq := qa pos _ _ J
        rw [e1] at hq ⊢
        exact PySem.W.callWith_of (by show ((false || (backTo pos (starEach ys X.env)).any (·.1)) || false) = false; rw [e2]; rfl) (PySem.W.keeps_M hf2) (PySem.Calls.evalArgs_plain (thn hq fun us s2 ⟨vs, H1, J2, r, q2⟩ => ⟨⟨ClX.pin_at J2, J2.kIn⟩, fin us s2 vs H1 J2 r q2⟩))
end
end Ab

namespace Ab
open PySem L2
structure SScope (N ps : List Str) (sc : Scope) : Prop where
  kind : sc.kind = .function
  co : sc.isCoroutine = false
  gen : sc.isGenerator = false
  nd : N.Nodup
  pre : N.take ps.length = ps
  par : ∀ x ∈ ps, sc.names.lookup x = some .local
  nocell : ∀ y ∈ sc.names, y.2 ≠ .cell
  free : ∀ y ∈ sc.names, y.2 = .free → y.1 = "__class__"
  nc : ("__class__" : Str) ∉ N
def cxS (CX : CXT) (P : Program) (w : World) (K : PySem.W.Frag) (mg : Str → Option Value) (base : Heap) (N : List Str) (qual : Str) (scope : Scope) (f cda cc : Addr) (A : Around) (outer : List Env) (s : Shared) (H : Hp) (E : XK) : Cx :=
  let env := PySem.W.ksEnv qual scope s.heap.objs.size f (.ref cda) cc
  { prog := P, w := w, K := K, mg := mg, base := base, A := A.deeper env, N := N, s_0 := s, H_0 := H, env := env, outer := outer, stack := env :: outer, ex := [], calm := true, fn := fun x => !(x == ("__class__" : Str)), pn := [],
    xe := fun e s' => wpAny (model P w) (A.deeper env) (leaving env e) (fun _ s'' => CX outer H s E e s'') (fun e' s'' => CX outer H s E e' s'') s' }
section
variable {CX : CXT} {P : Program} {w : World} {K : PySem.W.Frag} {mg : Str → Option Value} {base : Heap} {N ps : List Str} {qual : Str} {scope : Scope} {f cda cc D : Addr} {A : Around} {outer : List Env} {s : Shared} {H : Hp} {E : XK} {us : List Value} {vs : List V}
theorem one_cell {x y : Str} {c cc : Addr} (h : [(y, cc)].lookup x = some c) : x = y ∧ c = cc := by
  rw [List.lookup_cons] at h
  cases e : x == y with
  | true => rw [e] at h; exact ⟨eq_of_beq e, (Option.some.inj h).symm⟩
  | false => rw [e] at h; cases h
theorem inv_startS {h₁ : Heap} {tk : Nat} (S : SScope N ps scope) (hd : A.handled = none) (e0 : Env0 P w K mg base A outer s H) (hl : vs.length = ps.length) (r : Vals vs us) (hcell : ∃ (cl : Value) (cld : Option Addr) (csl : Array (Option Value)), K.lookup cc = some ⟨cl, cld, .cell (some (.ref D)), csl⟩)
    (hns : h₁.Ns s.heap.objs.size fun y => (ps.zip us).reverse.lookup y) (kp : ∀ b o, s.heap.get? b = some o → h₁.get? b = some o) : Inv (cxS CX P w K mg base N qual scope f cda cc A outer s H E) [] (L2.start N vs) H { s with heap := h₁, toks := tk } := by
  have len : ps.length ≤ N.length := by
    have q := congrArg List.length S.pre
    rw [List.length_take] at q
    omega
  obtain ⟨cl, cld, csl, lcell⟩ := hcell
  have inB : base.get? cc = some ⟨cl, cld, .cell (some (.ref D)), csl⟩ := e0.mod.kin _ _ lcell
  have inS := e0.bs _ _ inB
  have none' : ∀ b : Addr, b ∉ (cxS CX P w K mg base N qual scope f cda cc A outer s H E).ex := fun b z => absurd (show b ∈ ([] : List Addr) from z) (by simp)
  have lk : ∀ {x : Str} {c : Addr}, (cxS CX P w K mg base N qual scope f cda cc A outer s H E).env.cells.lookup x = some c → x = "__class__" ∧ c = cc := fun h => one_cell h
  have ok : (cxS CX P w K mg base N qual scope f cda cc A outer s H E).Ok := by
    refine ⟨e0.mod, S.kind, rfl, rfl, Nat.le_refl _, fun x y c h1 h2 => (lk h1).1.trans (lk h2).1.symm, fun y hy => ?_, fun y c z h => ?_, fun _ => hd, Around.frames_deeper e0.frames, .inr ⟨rfl, rfl⟩, fun b z => absurd z (none' b), e0.bs, e0.bsz, fun b _ _ => none' b, fun b z => absurd z (none' b), e0.funs, e0.frf⟩
    · have hy' : scope.names.lookup y = some .cell ∨ scope.names.lookup y = some .free := hy
      rcases hy' with q | q
      · exact absurd rfl (S.nocell _ (PySem.mem_of_lookup q))
      · have e := S.free _ (PySem.mem_of_lookup q) rfl
        have e' : y = "__class__" := e
        rw [e']
        exact ⟨cc, by rfl⟩
    · have z' : (!(y == ("__class__" : Str))) = true := z
      rw [(lk h).1] at z'
      exact absurd z' (by decide)
  refine ⟨ok, rfl, e0.bare, Un.kept kp, ⟨_, hns, fun i y v e1 e2 e3 => ?_⟩, fun y c h => ?_, e0.hok.fresh (Nat.le_refl _), fun y c h => ?_, fun p hp => absurd (show p ∈ ([] : List (Addr × Obj)) from hp) (by simp), e0.hok.kept kp, ?_⟩
  · have e1' : N[i]? = some y := e1
    have hi : i < vs.length := by
      refine Nat.lt_of_not_le fun c => ?_
      unfold L2.start at e2
      rw [List.getElem?_append_right (by simpa using c), List.getElem?_replicate] at e2
      split at e2 <;> cases e2
    have ha : vs[i]? = some v := by
      unfold L2.start at e2
      rw [List.getElem?_append_left (by simpa using hi), List.getElem?_map] at e2
      cases q : vs[i]? with
      | none => rw [q] at e2; cases e2
      | some z => rw [q] at e2; cases e2; rfl
    obtain ⟨u, hu, rv⟩ := r.get ha
    have hp : ps[i]? = some y := by
      rw [← S.pre, List.getElem?_take_of_lt (by omega)]; exact e1'
    have ndP : ps.Nodup := by rw [← S.pre]; exact S.nd.sublist (List.take_sublist _ _)
    exact ⟨u, rv, .inl ⟨S.par y (List.mem_of_getElem? hp), NdefX.zip_look ndP hp hu⟩⟩
  · rw [(lk h).2]
    exact ⟨_, _, kp _ _ inS.1, rfl⟩
  · rw [(lk h).2]; exact inS.2
  · unfold L2.start
    show _ = N.length
    rw [List.length_append, List.length_map, List.length_replicate]
    omega
theorem supFn_ok {k : Nat} {name : Str} {params : Arguments} {body : List Stmt} {dV kV doc pm ct oc : Value} {an od : Option Addr} {osl : Array (Option Value)} {sp : Sp} (lk : K.lookup f = some ⟨oc, od, .func (PySem.W.ksFn name qual params body scope dV kV doc pm an (.ref cda) ct cc), osl⟩)
    (hcd : PySem.W.codeIn K (.ref cda) qual = true) (S : SScope N ps scope) (hcell : ∃ (cl : Value) (cld : Option Addr) (csl : Array (Option Value)), K.lookup cc = some ⟨cl, cld, .cell (some (.ref D)), csl⟩) (len : ∀ vs H Q E, sp vs H Q E → vs.length = ps.length)
    (hbody : ∀ (A : Around) (outer : List Env) (s : Shared) (H : Hp) (vs : List V) (Q : VK) (E : XK) (s1 : Shared), Room k (A.deeper (PySem.W.ksEnv qual scope s.heap.objs.size f (.ref cda) cc)) → A.guards = some [] → sp vs H Q E → Inv (cxS CX P w K mg base N qual scope f cda cc A outer s H E) [] (L2.start N vs) H s1 →
      _root_.PySem.wpAt (model P w) (A.deeper (PySem.W.ksEnv qual scope s.heap.objs.size f (.ref cda) cc)) (.func body (PySem.W.ksEnv qual scope s.heap.objs.size f (.ref cda) cc)) (execs body (PySem.W.ksEnv qual scope s.heap.objs.size f (.ref cda) cc))
        (SP (cxS CX P w K mg base N qual scope f cda cc A outer s H E) [] { nx := fun _ H' => Q .non H', rt := Q }) (cxS CX P w K mg base N qual scope f cda cc A outer s H E).xe s1) :
    FnG P w K mg base CX (k + 1) f (PySem.W.ksFn name qual params body scope dV kV doc pm an (.ref cda) ct cc) ps sp := by
  refine ⟨len, fun A outer s H args us vs Q E room gd e0 bd r hsp => ?_⟩
  have hl := len _ _ _ _ hsp
  have kp0 : ∀ b o, base.get? b = some o → s.heap.get? b = some o := fun b o e => (e0.bs b o e).1
  have KX : K.In s.heap := e0.mod.kin.keeps kp0
  refine ks_codeAny_call_defAt (fd := PySem.W.ksFn name qual params body scope dV kV doc pm an (.ref cda) ct cc) (body := body) (binds := ps.zip us) room.depth (KX _ _ lk) rfl (e0.mod.nolimit.keeps kp0) (PySem.W.codeRec_of KX hcd) rfl bd S.nocell
    (fun y hy => S.par y.1 (List.of_mem_zip hy).1) (fun h₁ hns kp => ?_) S.co S.gen S.kind
  have I := inv_startS (CX := CX) (qual := qual) (f := f) (cda := cda) (E := E) (D := D) (tk := s.toks + (ps.zip us).length) S room.hd e0 hl r hcell hns kp
  refine wpAt_mono (hbody A outer s H vs Q E _ (room.deeper _) gd hsp I) (fun fl s' q => ?_) (fun e s' q => q)
  have out : ∀ {σ' : L2.St} {H' : Hp} {v : V} {u : Value}, Inv (cxS CX P w K mg base N qual scope f cda cc A outer s H E) [] σ' H' s' → RelV v u → Q v H' → L2.CE outer P w H s Q u s' :=
    fun {σ' H' v u} J rv qq => ⟨v, H', J.os, J.bare, J.base, J.hok, rv, qq⟩
  match fl, q with
  | .ret u, ⟨v, σ', H', J, rv, q⟩ => exact out J rv q
  | .next, ⟨σ', H', J, q⟩ => exact out (v := .non) (u := .none) J rfl q
  | .brk, ⟨_, _, _, q⟩ => exact q.elim
  | .cont, ⟨_, _, _, q⟩ => exact q.elim
end
section
variable {P : Pe} {d n m : Nat} {W : WX} {X : Cx} {pos : Pos}
theorem sup_body {st : Stmt} {body : List Stmt} {D : Ends} {fin : Ev → Hs → Re} (hst : ∀ (ι : Nat → Addr) (S : Hs) (ρ : Ev) (σ : L2.St) (H : Hp) (s : Shared), RH X.K P.G ι S H → RE X.K P.G ι S.n H ρ σ → Inv X [] σ H s → AftR P W X D ι S H (fin ρ S) →
      _root_.PySem.wpAt (model X.prog X.w) X.A (.func body X.env) (execs [st] X.env) (SP X [] D) X.xe s) :
    ∀ {pre : List St} {xpre : List Stmt}, All2 (SndSt P W X n) pre xpre → ∀ (ι : Nat → Addr) (S : Hs) (ρ : Ev) (σ : L2.St) (H : Hp) (s : Shared), RH X.K P.G ι S H → RE X.K P.G ι S.n H ρ σ → Inv X [] σ H s →
      AftR P W X D ι S H ((exs (fun s ρ S => ex P n s ρ S) pre ρ S).seq fin) → _root_.PySem.wpAt (model X.prog X.w) X.A (.func body X.env) (execs (xpre ++ [st]) X.env) (SP X [] D) X.xe s
  | _, _, .nil => fun ι S ρ σ H s rh re I h => hst ι S ρ σ H s rh re I h
  | _, _, .cons (a := p) (b := x) (as := ps) (bs := xs) h1 hr => fun ι S ρ σ H s rh re I h => by
    show _root_.PySem.wpAt _ _ _ (execs (x :: (xs ++ [st])) X.env) _ _ s
    refine ks_wpAt_execs_cons (wpAt_of_wpAny (wpAny_mono (h1 ι S ρ σ H { nx := fun σ1 H1 => ∀ s1, Inv X [] σ1 H1 s1 → _root_.PySem.wpAt (model X.prog X.w) X.A (.func body X.env) (execs (xs ++ [st]) X.env) (SP X [] D) X.xe s1, rt := D.rt, bk := D.bk, ct := D.ct } rh re ?_ [] s I) (fun fl s' q => ?_) fun _ _ q => q))
    · have h' : AftR P W X D ι S H (((ex P n p ρ S).seq fun ρ1 S1 => exs (fun s ρ S => ex P n s ρ S) ps ρ1 S1).seq fin) := h
      cases e : ex P n p ρ S with
      | bad => rw [e] at h'; exact h'
      | exc z ρ1 S1 => rw [e] at h'; exact h'
      | fl f S1 =>
        rw [e] at h'
        cases f with
        | nx ρ1 => exact fun ι1 H1 σ1 rh1 le1 re1 s1 I1 => sup_body hst hr ι1 S1 ρ1 σ1 H1 s1 rh1 re1 I1 (AftR.shift h' le1)
        | rt v => exact h'
        | bk ρ1 => exact h'
        | ct ρ1 => exact h'
    · match fl, q with
      | .next, ⟨σ1, H1, I1, q⟩ => exact q s' I1
      | .ret u, q => exact q
      | .brk, q => exact q
      | .cont, q => exact q
end
end Ab

namespace Ab
open PySem L2
structure Sp5 where
  p0 : Pos
  p1 : Pos
  ap : Pos
  pos : Pos
  spos : Pos
def supSt (xs : List Expr) (q : Sp5) : Stmt := .Expr (.Call (.Attribute (.Call (.Name "super" q.p0) [] [] q.p1) "__init__" q.ap) xs [] q.pos) q.spos
def supOne : Stmt → Option (List Expr × Sp5)
  | .Expr (.Call (.Attribute (.Call (.Name n p0) [] [] p1) m ap) xs [] pos) spos => if n = "super" ∧ m = "__init__" then some (xs, ⟨p0, p1, ap, pos, spos⟩) else none
  | _ => none
theorem supOne_eq {s : Stmt} {xs : List Expr} {q : Sp5} (h : supOne s = some (xs, q)) : s = supSt xs q := by
  unfold supOne at h
  split at h
  · split at h
    · rename_i c
      obtain ⟨rfl, rfl⟩ := c
      cases h
      rfl
    · cases h
  · cases h
def supSplit : List Stmt → Option (List Stmt × List Expr × Sp5)
  | [] => none
  | [s] => (match supOne s with
    | some (xs, q) => some ([], xs, q)
    | none => none)
  | s :: r => (match supSplit r with
    | some (pre, xs, q) => some (s :: pre, xs, q)
    | none => none)
theorem supSplit_eq : ∀ {b pre : List Stmt} {xs : List Expr} {q : Sp5}, supSplit b = some (pre, xs, q) → b = pre ++ [supSt xs q]
  | [], _, _, _, h => by cases h
  | [s], pre, xs, q, h => by
    unfold supSplit at h
    cases e : supOne s with
    | none => rw [e] at h; cases h
    | some y =>
      obtain ⟨ys, z⟩ := y
      rw [e] at h
      cases h
      rw [supOne_eq e]; rfl
  | s :: t :: r, pre, xs, q, h => by
    unfold supSplit at h
    cases e : supSplit (t :: r) with
    | none => rw [e] at h; cases h
    | some y =>
      obtain ⟨p, ys, z⟩ := y
      rw [e] at h
      cases h
      rw [supSplit_eq e]; rfl
/-- what super().__init__ finds from D on, for each class below -/
def SupM (G : Gx) (K : PySem.W.Frag) (D k : Nat) : Prop := ∃ cD fa, G.cls[D]? = some cD ∧ G.fns[k]? = some fa ∧ kwOf G k = [] ∧ PySem.W.typeIn K (.ref (He.fAd K fa)) = some (.type "function") ∧ PySem.W.fnIn K (He.fAd K fa) = true ∧
  ∀ (c : Nat) (cl : Cl), G.cls[c]? = some cl → cl.sup.contains D = true → PySem.W.mroIn K (He.ga K cl.name) (.ref (He.ga K cD.name)) = some true ∧ PySem.W.ks_superIn K (He.ga K cl.name) (He.ga K cD.name) "__init__" = some (some (.ref (He.fAd K fa)))
section
variable {P : Pe} {d n m : Nat} {W : WX} {X : Cx} {pos : Pos}
/-- the last statement -/
theorem sup_last (g : Good P d W X) {q : Str} {scope : Scope} {L f cda cc : Addr} {Dk k : Nat} {cD : Cl} {slf : Str} {body : List Stmt} {es : List E} {xs : List Expr} {q5 : Sp5} {D : Ends} (he : X.env = PySem.W.ksEnv q scope L f (.ref cda) cc)
    (sm : SupM P.G X.K Dk k) (hD : P.G.cls[Dk]? = some cD) (F : SupF X.K X.prog X.mg f cda cc (He.ga X.K cD.name) scope slf) (h0 : X.N[0]? = some slf) (ha : All2 (SndE P W X n) es xs) (hs : xs.all (fun x => !isStarX x) = true) (hn : xs.length < 30) (hl : (q5.ap.endLine == q5.pos.line) = true)
    (hi : interactive X.env = false) (ι : Nat → Addr) (S : Hs) (ρ : Ev) (σ : L2.St) (H : Hp) (s : Shared) (rh : RH X.K P.G ι S H) (re : RE X.K P.G ι S.n H ρ σ) (I : Inv X [] σ H s)
    (h : AftR P W X D ι S H (ex P (n + 2) (.expr (.sup Dk k es)) ρ S)) : _root_.PySem.wpAt (model X.prog X.w) X.A (.func body X.env) (execs [supSt xs q5] X.env) (SP X [] D) X.xe s := by
  obtain ⟨cD', fa, hD', hfa, hkw, ht, hf2, hall⟩ := sm
  rw [hD] at hD'
  cases hD'
  have h1 : AftR P W X D ι S H ((match ρ[0]? with
      | some (some x) => (match insAt S x with
        | some (c, _) => (match P.G.cls[c]? with
          | some cl => if cl.sup.contains Dk then (evL (fun e S => ev P n e ρ S) es S).bind fun vs S1 => P.C k (x :: vs) S1 else .bad
          | none => .bad)
        | none => .bad)
      | _ => .bad : Rs AV).st ρ fun _ S1 => .fl (.nx ρ) S1) := h
  cases e0 : ρ[0]? with
  | none => rw [e0] at h1; exact h1.elim
  | some o =>
    cases o with
    | none => rw [e0] at h1; exact h1.elim
    | some x =>
      simp only [e0] at h1
      cases e1 : insAt S x with
      | none => simp only [e1] at h1; exact h1.elim
      | some cf =>
        obtain ⟨c, fs⟩ := cf
        simp only [e1] at h1
        cases e2 : P.G.cls[c]? with
        | none => simp only [e2] at h1; exact h1.elim
        | some cl =>
          simp only [e2] at h1
          cases e3 : cl.sup.contains Dk with
          | false => rw [e3] at h1; exact h1.elim
          | true =>
            rw [e3, if_pos rfl] at h1
            obtain ⟨w, ew, rx⟩ := re.at_ 0 x e0
            obtain ⟨r, rfl, gr⟩ := insAt_eq e1
            obtain ⟨u, hu, ru⟩ := rh.obj gr
            cases ru with
            | @ins _ c' dx _ ws hc rf =>
              rw [e2] at hc
              cases hc
              have ew' : w = .ref (ι r) := by cases rx; rfl
              subst ew'
              obtain ⟨m1, m2⟩ := hall c cl e2 e3
              obtain ⟨fd, ps, FO, hb0, kp⟩ := g.mf.fn k fa hfa
              rw [hkw] at hb0
              have hb := hb0.pos
              have h2 : AftR P W X D ι S H ((evL (fun e S => ev P n e ρ S) es S).st ρ fun vs S1 => (P.C k (.ref r :: vs) S1).st ρ fun _ S1 => .fl (.nx ρ) S1) := by
                rw [← st_bind]; exact h1
              refine ks_wpAt_execs_cons (ks_wpAt_Expr_any (sup_run (R := fun vs H1 => spC X.K P k (.ref (ι r) :: vs) H1 (fun _ H2 => D.nx σ H2) fun c d H' => W c d σ H') I he F h0 ew hu m1 m2 ht hf2 hs hn hl
                (snd_argc ha hs ι S H _ rh re (AftR.st (Ra := RVsX X P) h2 re fun vs S1 _ ι1 H1 ws rh1 le1 r1 h3 => ?_)) fun us s1 vs H1 I1 rr q2 => ?_) hi rfl)
              · refine ⟨ι1, S1, .ref r :: vs, rh1, .cons (rx.mono le1) r1, ?_⟩
                exact AftR.st (Ra := RVg X P.G) h3 (re.mono le1) fun v S2 _ ι2 H2 w2 rh2 le2 r2 h4 => h4 ι2 H2 σ rh2 Le.refl ((re.mono le1).mono le2)
              · have hl2 : (Value.ref (ι r) :: us).length = ps.length := by
                  have q := FO.len _ _ _ _ q2
                  rw [List.length_cons, ← rr.length]; exact q
                have bd := hb s1 (Value.ref (ι r) :: us) I1.kIn (by rw [List.append_nil]; exact hl2)
                rw [List.append_nil] at bd
                have rr2 : Vals (V.ref (ι r) :: vs) (Value.ref (ι r) :: us) := .cons rfl rr
                refine codeAny_mono (FO.run X.A X.stack s1 H1 ⟨Value.ref (ι r) :: us, []⟩ _ _ _ _ (g.room.mono (Nat.le_succ d)) g.gd I1.env0 bd rr2 q2) fun res s' t => ?_
                match res, t with
                | .error e, t => exact g.tk e s' (XE.of_call I1 (fun _ _ _ y => y) t)
                | .ok (.ret v), t =>
                  obtain ⟨v', H', I3, _, q3⟩ := I1.after t
                  refine wpAt_of_wpAny ?_
                  exact wpAny_pure ⟨σ, H', I3, q3⟩
                | .ok .next, t => exact t.elim
                | .ok .brk, t => exact t.elim
                | .ok .cont, t => exact t.elim
end
end Ab

namespace Ab
open PySem L2
section
variable {P : Pe} {d n m : Nat} {W : WX} {X : Cx} {pos : Pos} {a b c : E} {xa xb xc : Expr}
/-- the built-in __init__, bound, called -/
theorem x_bound {pins : List (Addr × Obj)} {σ : L2.St} {H : Hp} {s : Shared} {u x C : Addr} {us : List Value} {Q : Value → Shared → Prop} {E : Value → Shared → Prop} {A : Around} {B newId initId : String} {bmB : List Value} (T : Xc X.K C B newId initId bmB) (I : Inv X pins σ H s)
    (hmw : s.heap.get? u = some (PySem.W.kxs_mw initId x)) (ex : H x = some (L2.exo x C none)) (hz : us.length ≤ 1000) (h : ∀ s', Inv X pins σ H s' → Q .none s') : wpAny (model X.prog X.w) A (call (.ref u) us) Q E s := by
  obtain ⟨nm, N', qn, bs', bm, hdct, sn, sub, ab, col, dd, k0, k1, k2, k3, k5, hC, hT⟩ := PySem.W.excInit_of I.kIn T.ini
  obtain ⟨t1, hxo⟩ := exo_at I.hok ex
  have eu : upd H x (L2.exo x C none) = H := by
    funext b
    by_cases hb : b = x
    · rw [hb, upd_same, ex]
    · rw [upd_ne hb]
  have fin : ∀ h', (∀ b o, b ≠ x → s.heap.get? b = some o → h'.get? b = some o) → h'.get? x = some (PySem.W.excRec (.ref C) s.heap.objs.size none .none .none (.bool false)) → Q .none { s with heap := h' } := fun h' k hx' => by
    have J := Inv.write (t' := s.toks) (x := x) (e := x) (o := L2.exo x C none) I (by rw [ex]; exact True.intro) (.inl rfl) k ⟨_, hx'⟩ (exo_ok hx')
    rw [eu] at J
    exact h _ J
  obtain ⟨hp, g, dr, tk, os⟩ := s
  refine wpAny_call (codeAny_of_tree ?_)
  show wpAny _ A.in1 (callAny (.ref u) ⟨us, []⟩) _ _ _
  unfold callAny
  refine wpAny_bind (wpAny_load hmw ?_)
  simp only [show (Value.type "method-wrapper" == Value.type "method" || Value.type "method-wrapper" == Value.type "builtin_function_or_method" || Value.type "method-wrapper" == Value.type "method-wrapper") = true by decide, if_true]
  refine PySem.W.KFB.if_so (by decide) ?_
  refine wpAny_bind (PySem.W.check_bound_init T.bs.fb.toExcCallFacts hC hxo rfl ?_)
  refine wpAny_bind (wpAny_pure (wpAny_pure ?_))
  refine ⟨plainId_quiet T.bs.fb.init.plain _, codeAny_builtin T.bs.fb.initEntry ?_⟩
  exact PySem.W.exc_init_tree (cls := .ref C) (t0 := t1) (dv := none) (c2 := .none) (c3 := .none) (b4 := .bool false) hxo (by rw [sizeLine_eq]; omega) fun h' k hx' _ => fin h' k hx'
theorem x_sup {pins : List (Addr × Obj)} {σ : L2.St} {H : Hp} {s : Shared} {q : Str} {scope : Scope} {L f cda cc x C : Addr} {self : Str} {body : List Stmt} {p0 p1 ap : Pos} {xs : List Expr} {R : List V → Hp → Prop} {Q : Value → Shared → Prop} {B newId initId : String} {bmB : List Value} (T : Xc X.K C B newId initId bmB) (I : Inv X pins σ H s)
    (he : X.env = PySem.W.ksEnv q scope L f (.ref cda) cc) (F : SupF X.K X.prog X.mg f cda cc C scope self) (h0 : X.N[0]? = some self) (hself : σ[0]? = some (some (.ref x))) (hx : H x = some (L2.exo x C none))
    (hs : xs.all (fun x => !isStarX x) = true) (hn : xs.length < 30) (hl : (ap.endLine == pos.line) = true) (ha : tWc X xs σ H R) (hR : ∀ vs H1, R vs H1 → vs.length ≤ 1000 ∧ H1 x = some (L2.exo x C none))
    (k : ∀ vs H1 s', R vs H1 → Inv X pins σ H1 s' → Q .none s') :
    _root_.PySem.wpAt (model X.prog X.w) X.A (.func body X.env) (eval (.Call (.Attribute (.Call (.Name "super" p0) [] [] p1) "__init__" ap) xs [] pos) X.env) Q X.xe s := by
  obtain ⟨pl, heq⟩ := sup_eq (pos := pos) (env := X.env) (xo := .Call (.Name "super" p0) [] [] p1) (x := "__init__") hs hn hl
  obtain ⟨t1, hxo⟩ := exo_at I.hok hx
  refine ks_wpAt_MethodCall (pl := pl) (sup_node I he F h0 hself hxo rfl (fun c e => by cases e) T.mc fun so s1 I1 hso hox => ?_) heq
  have KX := I1.kIn
  have hm := T.sup
  cases hc : PySem.W.clsIn X.K C with
  | none => unfold PySem.W.ks_superIn at hm; rw [hc] at hm; cases hm
  | some cd =>
    unfold PySem.W.ks_superIn at hm
    rw [hc] at hm
    have hxC : x ≠ C := by
      rintro rfl
      unfold PySem.W.clsIn at hc
      split at hc
      · rename_i c d cd' sl ho
        have e := KX _ _ ho
        rw [hox] at e
        cases e
      · cases hc
    have hIs : PySem.W.Looks (model X.prog X.w) s1.heap (isInstance (.ref x) (.type B)) true := (PySem.W.InstAt.type (x := x) (C := C) (od := none) ⟨hox, rfl, rfl, trivial⟩).andThen (PySem.W.looks_subIn KX T.sub)
    obtain ⟨hh, g, dd, t, os⟩ := s1
    have J : Inv X ((hh.objs.size, PySem.W.kxs_mw initId x) :: pins) σ H ⟨hh.push (PySem.W.kxs_mw initId x), g, dd, t + 1, os⟩ :=
      ClX.pin_new (t' := t + 1) I1 (fun _ _ z => Heap.get?_push_of_some _ z) (Nat.le_refl _) (Heap.get?_push_size hh rfl) (fun v z => nomatch z)
    refine PySem.W.kxs_getMethod T.bs.kx hso (PySem.W.looks_opaque KX F.opq) (l₀ := cd.mro) (fun A Q E s k q => wpAny_bind ((PySem.W.looks_clsIn KX hc) A _ E s k (wpAny_pure q))) rfl KX hm hIs hxC rfl ?_
    show wpAny _ _ (callWith pos (.ref _) [] (backTo pos (starEach xs X.env)) []) _ _ _
    have fin : ∀ us s2 vs H1, Inv X ((hh.objs.size, PySem.W.kxs_mw initId x) :: pins) σ H1 s2 → Vals vs us → R vs H1 → wpAny (model X.prog X.w) X.A (call (.ref hh.objs.size) us) Q X.xe s2 := fun us s2 vs H1 J2 r q2 => by
      obtain ⟨l1, ex⟩ := hR vs H1 q2
      exact x_bound T J2 (ClX.pin_at J2) ex (by rw [← Paired.length r]; exact l1) fun s' J3 => k vs H1 s' q2 (ClX.unpin J3)
    rcases ha with ⟨rfl, qa⟩ | ⟨hne, qa⟩
    · exact PySem.W.kxs_callWith (i := initId) (x := x) rfl (PyProof.Rows.evalArgs_empty ⟨ClX.pin_at J, fin [] _ [] H J .nil qa⟩)
    · cases xs with
      | nil => exact absurd rfl hne
      | cons y ys =>
        rw [List.all_cons, Bool.and_eq_true] at hs
        have e1 := starEach_cons (env := X.env) (xs := ys) (x := y) (by simpa using hs.1)
        have e2 := noStars (env := X.env) (pos := pos) hs.2
        have hq := qa pos _ _ J
        rw [e1] at hq ⊢
        exact PySem.W.kxs_callWith (i := initId) (x := x) (by show (false || (backTo pos (starEach ys X.env)).any (·.1)) = false; rw [e2]; rfl) (PySem.Calls.evalArgs_plain (thn hq fun us s2 ⟨vs, H1, J2, r, q2⟩ => ⟨ClX.pin_at J2, fin us s2 vs H1 J2 r q2⟩))
theorem st_seq {α : Type} (r : Rs α) (ρ : Ev) (f : α → Hs → Re) (g : Ev → Hs → Re) : (r.st ρ f).seq g = r.st ρ fun a S => (f a S).seq g := by cases r <;> rfl
/-- super().__init__(..), then statements -/
theorem x_body (g : Good P d W X) {q : Str} {scope : Scope} {L f cda cc : Addr} {Dk : Nat} {cD : Cl} {slf : Str} {body rest : List Stmt} {es : List E} {rs : List St} {xs : List Expr} {q5 : Sp5} {D : Ends} (he : X.env = PySem.W.ksEnv q scope L f (.ref cda) cc)
    (hD : P.G.cls[Dk]? = some cD) (hxb : cD.xb ≠ 0) (F : SupF X.K X.prog X.mg f cda cc (He.ga X.K cD.name) scope slf) (h0 : X.N[0]? = some slf) (ha : All2 (SndE P W X n) es xs) (hr : SndSs P W X (n + 2) rs rest) (hs : xs.all (fun x => !isStarX x) = true) (hn : xs.length < 30) (hl : (q5.ap.endLine == q5.pos.line) = true)
    (hi : interactive X.env = false) (ι : Nat → Addr) (S : Hs) (ρ : Ev) (σ : L2.St) (H : Hp) (s : Shared) (rh : RH X.K P.G ι S H) (re : RE X.K P.G ι S.n H ρ σ) (I : Inv X [] σ H s)
    (h : AftR P W X D ι S H (exs (fun s ρ S => ex P (n + 2) s ρ S) (.expr (.xsup Dk es) :: rs) ρ S)) : _root_.PySem.wpAt (model X.prog X.w) X.A (.func body X.env) (execs (supSt xs q5 :: rest) X.env) (SP X [] D) X.xe s := by
  have h1 : AftR P W X D ι S H (((match ρ[0]? with
      | some (some (AV.ref r)) => (match S.get r with
        | some (.exo k none) => if k = Dk then (evL (fun e S => ev P n e ρ S) es S).bind fun vs S1 => (match S1.get r with
            | some (.exo k none) => if k = Dk then .ok .non S1 else .bad
            | _ => .bad) else .bad
        | _ => .bad)
      | _ => .bad : Rs AV).st ρ fun _ S1 => .fl (.nx ρ) S1).seq fun ρ1 S1 => exs (fun s ρ S => ex P (n + 2) s ρ S) rs ρ1 S1) := h
  cases e0 : ρ[0]? with
  | none => rw [e0] at h1; exact h1.elim
  | some o =>
    cases o with
    | none => rw [e0] at h1; exact h1.elim
    | some x =>
      rw [e0] at h1
      cases x with
      | ref r =>
        dsimp only at h1
        cases e1 : S.get r with
        | none => rw [e1] at h1; exact h1.elim
        | some o1 =>
          rw [e1] at h1
          obtain ⟨u, hu, ru⟩ := rh.obj e1
          cases ru with
          | @exo kc c dd _ hc hlt eu =>
            cases dd with
            | some _ => exact h1.elim
            | none =>
              dsimp only at h1
              split at h1
              · rename_i ek
                subst ek
                rw [hD] at hc
                cases hc
                obtain ⟨w, ew, rx⟩ := re.at_ 0 _ e0
                have ew' : w = .ref (ι r) := by cases rx; rfl
                subst ew'
                obtain ⟨B, i1, i2, bm, T⟩ := (g.mf.xcf kc cD hD hxb).xc
                have hx : H (ι r) = some (L2.exo (ι r) (He.ga X.K cD.name) none) := by rw [hu, eu]; rfl
                rw [st_seq, st_bind] at h1
                refine ks_wpAt_execs_cons (ks_wpAt_Expr_any (x_sup (R := fun vs H1 => vs.length ≤ 1000 ∧ H1 (ι r) = some (L2.exo (ι r) (He.ga X.K cD.name) none) ∧ tWss X rest D σ H1) T I he F h0 ew hx hs hn hl
                  (snd_argc ha hs ι S H _ rh re (AftR.st (Ra := RVsX X P) h1 re fun vs S1 hev ι1 H1 ws rh1 le1 r1 h3 => ?_)) (fun vs H1 q => ⟨q.1, q.2.1⟩) fun vs H1 s' q J => ?_) hi rfl)
                · cases e3 : S1.get r with
                  | none => rw [e3] at h3; exact h3.elim
                  | some o3 =>
                    rw [e3] at h3
                    obtain ⟨u3, hu3, ru3⟩ := rh1.obj e3
                    cases ru3 with
                    | @exo k3 c3 d3 _ hc3 hlt3 eu3 =>
                      cases d3 with
                      | some _ => exact h3.elim
                      | none =>
                        dsimp only at h3
                        split at h3
                        · rename_i ek3
                          subst ek3
                          rw [hD] at hc3
                          cases hc3
                          have hlen : ws.length ≤ 1000 := by
                            rw [← r1.length, evL_len hev, All2.length ha]
                            omega
                          have hx1 : H1 (ι r) = some (L2.exo (ι r) (He.ga X.K cD.name) none) := by
                            rw [← le1.ag r (Hs.lt_of_get e1), hu3, eu3]; rfl
                          exact ⟨hlen, hx1, hr ι1 S1 ρ σ H1 D rh1 (re.mono le1) h3⟩
                        · exact h3.elim
                    | _ => exact h3.elim
                · exact wpAt_of_wpAny (q.2.2 [] s' J)
              · exact h1.elim
          | _ => exact h1.elim
      | _ => exact h1.elim
end
end Ab

namespace Ab
open PySem L2
section
variable {c : Ct}
def cSl (f : (x : Stmt) → CS c x) : (xs : List Stmt) → {s : List St // ∀ C d W X n, Fit c C d W X → All2 (SndSt ⟨c.G, C⟩ W X n) s xs}
  | [] => ⟨[], fun _ _ _ _ _ _ => .nil⟩
  | x :: xs => ⟨(f x).1 :: (cSl f xs).1, fun C d W X n h => .cons ((f x).2 C d W X n h) ((cSl f xs).2 C d W X n h)⟩
end
theorem exs_append (f : St → Ev → Hs → Re) (l : St) : ∀ (pre : List St) (ρ : Ev) (S : Hs), exs f (pre ++ [l]) ρ S = (exs f pre ρ S).seq fun ρ S => f l ρ S
  | [], ρ, S => by
    show (f l ρ S).seq (fun ρ1 S1 => .fl (.nx ρ1) S1) = f l ρ S
    cases f l ρ S with
    | fl g _ => cases g <;> rfl
    | exc _ _ _ => rfl
    | bad => rfl
  | s :: r, ρ, S => by
    show (f s ρ S).seq (fun ρ1 S1 => exs f (r ++ [l]) ρ1 S1) = ((f s ρ S).seq fun ρ1 S1 => exs f r ρ1 S1).seq _
    cases f s ρ S with
    | fl g S1 =>
      cases g with
      | nx ρ1 => exact exs_append f l r ρ1 S1
      | rt _ => rfl
      | bk _ => rfl
      | ct _ => rfl
    | exc _ _ _ => rfl
    | bad => rfl
structure FuS where
  f : Str × Option Str
  name : Str
  qual : Str
  par : Arguments
  body : List Stmt
  scope : Scope
  N : List Str
  ps : List Str
  ks : List Str
  D : Nat
  k : Nat
  x : Bool := false
def FuS.ct (u : FuS) (G : Gx) : Ct := ⟨G, u.scope, u.N, true, []⟩
/-- super().__init__(..) ahead -/
def sup1 : List Stmt → Option (List Expr × Sp5 × List Stmt)
  | s :: r => (match supOne s with
    | some (xs, q) => some (xs, q, r)
    | none => none)
  | [] => none
theorem sup1_eq {b r : List Stmt} {xs : List Expr} {q : Sp5} (h : sup1 b = some (xs, q, r)) : b = supSt xs q :: r := by
  cases b with
  | nil => cases h
  | cons s t =>
    unfold sup1 at h
    cases e : supOne s with
    | none => simp only [e] at h; cases h
    | some y =>
      obtain ⟨ys, z⟩ := y
      simp only [e] at h
      cases h
      rw [supOne_eq e]
def FuS.fb (u : FuS) (G : Gx) : Fb := if u.x then (match sup1 u.body with
    | some (xs, _, rest) => ⟨u.N.length, u.ps.length, .expr (.xsup u.D (cEs (cE fuel (u.ct G)) xs).1) :: (cSs (cS fuel (u.ct G)) rest).1⟩
    | none => ⟨0, 0, []⟩)
  else (match supSplit u.body with
    | some (pre, xs, _) => ⟨u.N.length, u.ps.length, (cSl (cS fuel (u.ct G)) pre).1 ++ [.expr (.sup u.D u.k (cEs (cE fuel (u.ct G)) xs).1)]⟩
    | none => ⟨0, 0, []⟩)
def FuS.ok (u : FuS) : Bool := decide (u.scope.kind = .function) && !u.scope.isCoroutine && !u.scope.isGenerator && decide u.N.Nodup && decide (u.N.take u.ps.length = u.ps) && u.ps.all (fun x => decide (u.scope.names.lookup x = some .local)) &&
  u.scope.names.all (fun y => y.2 != .cell) && u.scope.names.all (fun y => y.2 != .free || decide (y.1 = "__class__")) && decide (("__class__" : Str) ∉ u.N) && (match (if u.x then (sup1 u.body).map (fun t => (t.1, t.2.1)) else (supSplit u.body).map (fun t => t.2)) with
    | some (xs, q) => xs.all (fun x => !isStarX x) && decide (xs.length < 30) && (q.ap.endLine == q.pos.line)
    | none => false)
theorem FuS.sc {u : FuS} (h : u.ok = true) : SScope u.N u.ps u.scope ∧ (u.x = false → ∃ pre xs q, supSplit u.body = some (pre, xs, q) ∧ xs.all (fun x => !isStarX x) = true ∧ xs.length < 30 ∧ (q.ap.endLine == q.pos.line) = true) ∧
    (u.x = true → ∃ xs q rest, sup1 u.body = some (xs, q, rest) ∧ xs.all (fun x => !isStarX x) = true ∧ xs.length < 30 ∧ (q.ap.endLine == q.pos.line) = true) := by
  unfold FuS.ok at h
  simp only [Bool.and_eq_true] at h
  obtain ⟨⟨⟨⟨⟨⟨⟨⟨⟨h1, h2⟩, h3⟩, h4⟩, h5⟩, h6⟩, h7⟩, h8⟩, h9⟩, h10⟩ := h
  refine ⟨⟨of_decide_eq_true h1, by simpa using h2, by simpa using h3, of_decide_eq_true h4, of_decide_eq_true h5, fun x hx => of_decide_eq_true (List.all_eq_true.mp h6 x hx), fun y hy e => ?_, fun y hy e => ?_, of_decide_eq_true h9⟩, fun hx => ?_, fun hx => ?_⟩
  · have q := List.all_eq_true.mp h7 y hy
    rw [e] at q
    exact absurd q (by decide)
  · have q := List.all_eq_true.mp h8 y hy
    rw [e, Bool.or_eq_true] at q
    rcases q with q | q
    · exact absurd q (by decide)
    · exact of_decide_eq_true q
  · rw [hx, if_neg Bool.false_ne_true] at h10
    cases e : supSplit u.body with
    | none => rw [e] at h10; cases h10
    | some t =>
      obtain ⟨pre, xs, q⟩ := t
      rw [e] at h10
      have h' : (xs.all (fun x => !isStarX x) && decide (xs.length < 30) && (q.ap.endLine == q.pos.line)) = true := h10
      rw [Bool.and_eq_true, Bool.and_eq_true] at h'
      exact ⟨pre, xs, q, rfl, h'.1.1, of_decide_eq_true h'.1.2, h'.2⟩
  · rw [hx, if_pos rfl] at h10
    cases e : sup1 u.body with
    | none => rw [e] at h10; cases h10
    | some t =>
      obtain ⟨xs, q, rest⟩ := t
      rw [e] at h10
      have h' : (xs.all (fun x => !isStarX x) && decide (xs.length < 30) && (q.ap.endLine == q.pos.line)) = true := h10
      rw [Bool.and_eq_true, Bool.and_eq_true] at h'
      exact ⟨xs, q, rest, rfl, h'.1.1, of_decide_eq_true h'.1.2, h'.2⟩
/-- what is known of its object -/
structure SupK (K : PySem.W.Frag) (prog : Program) (mg : Str → Option Value) (G : Gx) (u : FuS) : Prop where
  ex : ∃ (oc : Value) (od : Option Addr) (kV doc pm : Value) (an : Option Addr) (cda : Addr) (ct : Value) (cc : Addr) (osl : Array (Option Value)) (cD : Cl) (slf : Str),
    K.lookup (He.fAd K u.f) = some ⟨oc, od, .func (PySem.W.ksFn u.name u.qual u.par u.body u.scope .none kV doc pm an (.ref cda) ct cc), osl⟩ ∧ PySem.W.codeIn K (.ref cda) u.qual = true ∧ G.cls[u.D]? = some cD ∧ u.N[0]? = some slf ∧ SupF K prog mg (He.fAd K u.f) cda cc (He.ga K cD.name) u.scope slf
  kp : PySem.W.keepIn K (.ref (He.fAd K u.f)) = true
  sm : u.x = false → SupM G K u.D u.k
  xm : u.x = true → ∃ cD, G.cls[u.D]? = some cD ∧ cD.xb ≠ 0
section
variable {prog : Program} {w : World} {K : PySem.W.Frag} {mg : Str → Option Value} {base : Heap} {G : Gx}
theorem sup_all {u : FuS} {G : Gx} {C : Nat → List AV → Hs → Rs AV} {d : Nat} {W : WX} {X : Cx} {pre : List Stmt} {xs : List Expr} {q5 : Sp5} {q : Str} {scope : Scope} {L f cda cc : Addr} {cD : Cl} {slf : Str} {D : Ends} (fit : Fit (u.ct G) C d W X) (hsp : supSplit u.body = some (pre, xs, q5)) (hs : xs.all (fun x => !isStarX x) = true) (hn : xs.length < 30)
    (hl : (q5.ap.endLine == q5.pos.line) = true) (he : X.env = PySem.W.ksEnv q scope L f (.ref cda) cc) (sm : SupM G X.K u.D u.k) (hD : G.cls[u.D]? = some cD) (F : SupF X.K X.prog X.mg f cda cc (He.ga X.K cD.name) scope slf) (h0 : u.N[0]? = some slf) (hi : interactive X.env = false)
    (ι : Nat → Addr) (S : Hs) (ρ : Ev) (σ : L2.St) (H : Hp) (s : Shared) (rh : RH X.K G ι S H) (re : RE X.K G ι S.n H ρ σ) (I : Inv X [] σ H s)
    (h : AftR ⟨G, C⟩ W X D ι S H (exs (fun s ρ S => ex ⟨G, C⟩ depth0 s ρ S) ((cSl (cS fuel (u.ct G)) pre).1 ++ [.expr (.sup u.D u.k (cEs (cE fuel (u.ct G)) xs).1)]) ρ S)) :
    _root_.PySem.wpAt (model X.prog X.w) X.A (.func u.body X.env) (execs u.body X.env) (SP X [] D) X.xe s := by
  rw [exs_append] at h
  have hb := supSplit_eq hsp
  have h0' : X.N[0]? = some slf := by rw [fit.n]; exact h0
  have q := sup_body (body := u.body) (D := D) (st := supSt xs q5) (fin := fun ρ S => ex ⟨G, C⟩ depth0 (.expr (.sup u.D u.k (cEs (cE fuel (u.ct G)) xs).1)) ρ S)
    (fun ι S ρ σ H s rh re I h => sup_last (n := 398) fit.good he sm hD F h0' ((cEs (cE fuel (u.ct G)) xs).2 C d W X 398 fit) hs hn hl hi ι S ρ σ H s rh re I h) ((cSl (cS fuel (u.ct G)) pre).2 C d W X depth0 fit) ι S ρ σ H s rh re I h
  rw [← hb] at q
  exact q
theorem x_all {u : FuS} {G : Gx} {C : Nat → List AV → Hs → Rs AV} {d : Nat} {W : WX} {X : Cx} {rest : List Stmt} {xs : List Expr} {q5 : Sp5} {q : Str} {scope : Scope} {L f cda cc : Addr} {cD : Cl} {slf : Str} {D : Ends} (fit : Fit (u.ct G) C d W X) (hsp : sup1 u.body = some (xs, q5, rest)) (hs : xs.all (fun x => !isStarX x) = true) (hn : xs.length < 30)
    (hl : (q5.ap.endLine == q5.pos.line) = true) (he : X.env = PySem.W.ksEnv q scope L f (.ref cda) cc) (hD : G.cls[u.D]? = some cD) (hxb : cD.xb ≠ 0) (F : SupF X.K X.prog X.mg f cda cc (He.ga X.K cD.name) scope slf) (h0 : u.N[0]? = some slf) (hi : interactive X.env = false)
    (ι : Nat → Addr) (S : Hs) (ρ : Ev) (σ : L2.St) (H : Hp) (s : Shared) (rh : RH X.K G ι S H) (re : RE X.K G ι S.n H ρ σ) (I : Inv X [] σ H s)
    (h : AftR ⟨G, C⟩ W X D ι S H (exs (fun s ρ S => ex ⟨G, C⟩ depth0 s ρ S) (.expr (.xsup u.D (cEs (cE fuel (u.ct G)) xs).1) :: (cSs (cS fuel (u.ct G)) rest).1) ρ S)) :
    _root_.PySem.wpAt (model X.prog X.w) X.A (.func u.body X.env) (execs u.body X.env) (SP X [] D) X.xe s := by
  have hb := sup1_eq hsp
  have h0' : X.N[0]? = some slf := by rw [fit.n]; exact h0
  have q := x_body (n := 398) (body := u.body) fit.good he hD hxb F h0' ((cEs (cE fuel (u.ct G)) xs).2 C d W X 398 fit) ((cSs (cS fuel (u.ct G)) rest).2 C d W X 400 fit) hs hn hl hi ι S ρ σ H s rh re I h
  rw [← hb] at q
  exact q
theorem FuS.step {u : FuS} (b : MB G K mg) (h : u.ok = true) (SK : SupK K prog mg G u)
    (hbind : ∀ (kV doc pm : Value) (an : Option Addr) (cdv ct : Value) (cc : Addr) (us : List Value), us.length = u.ps.length → bindArgs (PySem.W.ksFn u.name u.qual u.par u.body u.scope .none kV doc pm an cdv ct cc) ⟨us.take (u.ps.length - u.ks.length), u.ks.zip (us.drop (u.ps.length - u.ks.length))⟩ = pure (u.ps.zip us)) :
    StepOk prog w K mg G u.f (u.fb G) u.ks := by
  obtain ⟨oc, od, kV, doc, pm, an, cda, ct, cc, osl, cD, slf, lk, hcd, hD, h0, F⟩ := SK.ex
  obtain ⟨S, sh0, sh1⟩ := FuS.sc h
  obtain ⟨bd, hfb, hrun⟩ : ∃ bd : List St, u.fb G = ⟨u.N.length, u.ps.length, bd⟩ ∧ ∀ {C : Nat → List AV → Hs → Rs AV} {d : Nat} {W : WX} {X : Cx} {q : Str} {scope : Scope} {L f cda cc : Addr} {D : Ends} (fit : Fit (u.ct G) C d W X) (eK : X.K = K) (he : X.env = PySem.W.ksEnv q scope L f (.ref cda) cc)
      (F : SupF X.K X.prog X.mg f cda cc (He.ga X.K cD.name) scope slf) (hi : interactive X.env = false) (ι : Nat → Addr) (S : Hs) (ρ : Ev) (σ : L2.St) (H : Hp) (s : Shared) (rh : RH X.K G ι S H) (re : RE X.K G ι S.n H ρ σ) (I : Inv X [] σ H s)
      (h : AftR ⟨G, C⟩ W X D ι S H (exs (fun s ρ S => ex ⟨G, C⟩ depth0 s ρ S) bd ρ S)), _root_.PySem.wpAt (model X.prog X.w) X.A (.func u.body X.env) (execs u.body X.env) (SP X [] D) X.xe s := by
    cases hx : u.x with
    | false =>
      obtain ⟨pre, xs, q, hsp, hs, hn, hl⟩ := sh0 hx
      refine ⟨(cSl (cS fuel (u.ct G)) pre).1 ++ [.expr (.sup u.D u.k (cEs (cE fuel (u.ct G)) xs).1)], ?_, fun fit eK he F hi ι S ρ σ H s rh re I h => ?_⟩
      · unfold FuS.fb
        rw [hx, hsp]; rfl
      · exact sup_all fit hsp hs hn hl he (by rw [eK]; exact SK.sm hx) hD F h0 hi ι S ρ σ H s rh re I h
    | true =>
      obtain ⟨xs, q, rest, hsp, hs, hn, hl⟩ := sh1 hx
      obtain ⟨cD', hD', hxb⟩ := SK.xm hx
      rw [hD] at hD'
      cases hD'
      refine ⟨.expr (.xsup u.D (cEs (cE fuel (u.ct G)) xs).1) :: (cSs (cS fuel (u.ct G)) rest).1, ?_, fun fit eK he F hi ι S ρ σ H s rh re I h => ?_⟩
      · unfold FuS.fb
        rw [hx, hsp]; rfl
      · exact x_all fit hsp hs hn hl he hD hxb F h0 hi ι S ρ σ H s rh re I h
  refine ⟨_, u.ps, fun s us _ hl => .of_eq (hbind kV doc pm an (.ref cda) ct cc us hl), SK.kp, by rw [hfb], fun base C d fns => ?_⟩
  refine supFn_ok (k := d + 1) lk hcd S F.cell (fun vs H Q E h => by have q := spR_len h; rw [hfb] at q; exact q) (fun A outer s H ws Q E s1 hr gd hsp2 I => ?_)
  have fit : Fit (u.ct G) C d (fun c d _ H => E c d H) (cxS (CX prog w) prog w K mg base u.N u.qual u.scope (He.fAd K u.f) cda cc A outer s H E) := by
    refine ⟨⟨mf_of b fns, rfl, S.nd, hr, takes_of rfl rfl rfl rfl, passes_of rfl, deeper_guards.trans gd⟩, rfl, rfl, fun _ x hx => ?_, fun _ h => nomatch h⟩
    show (!(x == ("__class__" : Str))) = true
    cases e : x == ("__class__" : Str) with
    | false => rfl
    | true => exact absurd (eq_of_beq e ▸ hx) S.nc
  obtain ⟨ι, S0, vs, rh, rv, hh⟩ := hsp2
  rw [hfb] at hh
  unfold runFn at hh
  split at hh
  · refine hrun fit rfl rfl F (by show (u.scope.kind == .module && _) = false; rw [S.kind]; rfl) ι S0 (vs.map some ++ List.replicate (u.N.length - vs.length) none) (L2.start u.N ws) H s1 rh (start_re rv) I ?_
    have h' : Aft K G (fun ι m H (x : AV) (v : V) => RV K G ι m H x v) Q E ι S0 H (match exs (fun s ρ S => ex ⟨G, C⟩ depth0 s ρ S) bd (vs.map some ++ List.replicate (u.N.length - vs.length) none) S0 with
        | .fl (.nx _) S' => .ok .non S'
        | .fl (.rt v) S' => .ok v S'
        | .exc x _ S' => .exc x S'
        | _ => .bad) := hh
    cases e : exs (fun s ρ S => ex ⟨G, C⟩ depth0 s ρ S) bd (vs.map some ++ List.replicate (u.N.length - vs.length) none) S0 with
    | bad => rw [e] at h'; exact h'.elim
    | exc x ρ S' =>
      rw [e] at h'
      exact fun ι' H' σ' c d' rh' le' re' rx => h' ι' H' c d' rh' le' rx
    | fl fl S' =>
      rw [e] at h'
      cases fl with
      | nx ρ => exact fun ι' H' σ' rh' le' re' => h' ι' H' .non rh' le' .non
      | rt v => exact fun ι' H' w' rh' le' rv' => h' ι' H' w' rh' le' rv'
      | bk ρ => exact h'.elim
      | ct ρ => exact h'.elim
  · exact hh.elim
end
end Ab

namespace Ab
open PySem L2
/-- the cells of the defs' closures -/
def celG (g : Addr → Option Obj) (as : List Addr) : List Addr := as.flatMap fun a => match g a with
  | some ⟨_, _, .func fd, _⟩ => fd.closure.map (·.2)
  | _ => []
def asA (g : Addr → Option Obj) (n : Nat) : List Addr := cStatics :: (He.asD g n ++ celG g (He.asD g n))
abbrev FnS : Type := Option (Str × Str × Arguments × FuncBody × Scope × Addr × List Str × Value × Addr)
def fnS (K : PySem.W.Frag) (p : Str × Option Str) : FnS := match K.lookup (He.fAd K p) with
  | some ⟨_, _, .func fd, _⟩ => some (fd.name, fd.qualname, fd.params, fd.body, fd.scope, fd.globals, fd.closure.map (·.1), fd.defaults, fd.builtins)
  | _ => none
def FuS.val (u : FuS) : FnS := some (u.name, u.qual, u.par, .stmts u.body, u.scope, mainGlobals, ["__class__"], .none, builtinsNs)
/-- of its object, code, cell, classes -/
def FuS.kB (u : FuS) (prog : Program) (G : Gx) (K : PySem.W.Frag) : Bool := PySem.W.keepIn K (.ref (He.fAd K u.f)) && (match G.cls[u.D]?, G.fns[u.k]?, u.N[0]?, K.lookup (He.fAd K u.f) with
  | some cD, some fa, some slf, some ⟨_, _, .func fd, _⟩ => (match fd.code, fd.closure with
    | .ref cda, [(_, cc)] => PySem.W.codeIn K (.ref cda) u.qual && ((match K.lookup cda with
        | some ⟨_, _, .fields vs, _⟩ => (match (vs[2]? : Option Value) with
          | some (.str file _) => (prog.main.file : Str) == file
          | _ => false)
        | _ => false) && ((match K.lookup cc with
        | some ⟨_, _, .cell (some (.ref D)), _⟩ => decide (D = He.ga K cD.name)
        | _ => false) && ((PySem.W.clsIn K (He.ga K cD.name)).isSome && (decide (u.scope.names.lookup ("super" : Str) = some .globalImplicit) && (decide (u.scope.names.lookup ("__class__" : Str) = some .free) && (decide (u.scope.names.lookup slf = some .local) &&
        (!(prog.main.scope.names.lookup ("super" : Str)).isSome && (He.eqO (PySem.W.nsIn K cStatics "thirdparty.any") (some none) && (decide ((u.par.posonlyargs ++ u.par.args).head?.map (·.arg) = some slf) &&
        ((!u.x || decide (cD.xb ≠ 0)) && (u.x || (decide (kwOf G u.k = []) && (decide (PySem.W.typeIn K (.ref (He.fAd K fa)) = some (.type "function")) && (PySem.W.fnIn K (He.fAd K fa) &&
        G.cls.all (fun cl => !cl.sup.contains u.D || (decide (PySem.W.mroIn K (He.ga K cl.name) (.ref (He.ga K cD.name)) = some true) && He.eqO (PySem.W.ks_superIn K (He.ga K cl.name) (He.ga K cD.name) "__init__") (some (some (.ref (He.fAd K fa))))))))))))))))))))
    | _, _ => false)
  | _, _, _, _ => false)
theorem supK_of {K : PySem.W.Frag} {prog : Program} {mg : Str → Option Value} {G : Gx} {u : FuS} (b : MB G K mg) (e : fnS K u.f = u.val) (h : u.kB prog G K = true) : SupK K prog mg G u := by
  unfold FuS.kB at h
  rw [Bool.and_eq_true] at h
  obtain ⟨kp, h⟩ := h
  cases hD : G.cls[u.D]? with
  | none => rw [hD] at h; cases h
  | some cD =>
    cases hf : G.fns[u.k]? with
    | none => rw [hD, hf] at h; cases h
    | some fa =>
      cases h0 : u.N[0]? with
      | none => rw [hD, hf, h0] at h; cases h
      | some slf =>
        cases lk : K.lookup (He.fAd K u.f) with
        | none => rw [hD, hf, h0, lk] at h; cases h
        | some o =>
          obtain ⟨oc, od, dt, osl⟩ := o
          cases dt with
          | func fd =>
            simp only [hD, hf, h0, lk] at h
            unfold fnS at e
            simp only [lk] at e
            obtain ⟨n1, n2, n3, n4, n5, n6, n7, n8, n9, n10, n11, n12, n13, n14, n15⟩ := fd
            simp only [FuS.val, Option.some.injEq, Prod.mk.injEq] at e
            obtain ⟨e1, e2, e3, e4, e5, e6, e7, e8, e9⟩ := e
            subst e1 e2 e3 e4 e5 e6 e8 e9
            cases n13 with
            | ref cda =>
              match n7, e7 with
              | [(y, cc)], e7 =>
                have ey : y = "__class__" := by simpa using e7
                subst ey
                simp only [Bool.and_eq_true] at h
                obtain ⟨a1, a2, a3, a4, a5, a6, a7, a8, a9, a10, ax, ay⟩ := h
                have hcell : ∃ (cl : Value) (cld : Option Addr) (csl : Array (Option Value)), K.lookup cc = some ⟨cl, cld, .cell (some (.ref (He.ga K cD.name))), csl⟩ := by
                  split at a3
                  · rename_i D _ q
                    have := of_decide_eq_true a3
                    subst this
                    exact ⟨_, _, _, q⟩
                  · cases a3
                refine ⟨⟨oc, od, n9, n10, n11, n12, cda, n14, cc, osl, cD, slf, lk, a1, hD, h0, ⟨?_, ?_, hcell, Option.isSome_iff_exists.mp a4, b.free _ (by decide), of_decide_eq_true a5, of_decide_eq_true a6, of_decide_eq_true a7, by simpa using a8, He.eqO_ok a9⟩⟩, kp, fun hx => ?_, fun hx => ⟨cD, hD, ?_⟩⟩
                · have q := of_decide_eq_true a10
                  obtain ⟨ar, r1, r2⟩ := Option.map_eq_some_iff.mp q
                  exact ⟨_, _, _, _, ar, lk, r1, r2⟩
                · split at a2
                  · rename_i vs _ q
                    split at a2
                    · rename_i file tf q2
                      exact ⟨_, _, _, _, file, tf, q, q2, a2⟩
                    · cases a2
                  · cases a2
                · rw [hx, Bool.false_or] at ay
                  simp only [Bool.and_eq_true] at ay
                  obtain ⟨a11, a12, a13, a14⟩ := ay
                  refine ⟨cD, fa, hD, hf, of_decide_eq_true a11, of_decide_eq_true a12, a13, fun c cl hc hs => ?_⟩
                  have q := List.all_eq_true.mp a14 cl (List.mem_of_getElem? hc)
                  rw [hs] at q
                  simp only [Bool.not_true, Bool.false_or, Bool.and_eq_true] at q
                  exact ⟨of_decide_eq_true q.1, He.eqO_ok q.2⟩
                · rw [hx] at ax
                  simpa using ax
            | _ => cases h
          | _ => simp only [hD, hf, h0, lk] at h; cases h
abbrev AlB : Type := He.AlD × Bool × List FnS
def obsB (n : Nat) (fn : List He.DefD) (sn : List FuS) (ex : PySem.W.Frag → Bool) (g : Addr → Option Obj) : AlB := (He.obsD [] fn (He.frG g (asA g n)), ex (He.frG g (asA g n)), sn.map fun u => fnS (He.frG g (asA g n)) u.f)
def hookB (n : Nat) (fn : List He.DefD) (sn : List FuS) (ex : PySem.W.Frag → Bool) : PySem.W.Hook where
  α := AlB
  obs := fun s => obsB n fn sn ex s.heap.get?
  val := fun _ => (He.valD fn, true, sn.map FuS.val)
  says := fun _ h => ∃ K : PySem.W.Frag, K.In h ∧ He.SaysD [] fn K ∧ ex K = true ∧ (sn.map fun u => fnS K u.f) = sn.map FuS.val
  of := fun _ _ e => ⟨_, He.frG_in, congrArg (fun z : AlB => z.1) e, congrArg (fun z : AlB => z.2.1) e, congrArg (fun z : AlB => z.2.2) e⟩
  keeps := fun _ _ _ ⟨K, hK, c⟩ k => ⟨K, PySem.W.Frag.In.keeps hK k, c⟩
theorem obsB_eq {n : Nat} {fn : List He.DefD} {sn : List FuS} {ex : PySem.W.Frag → Bool} {g : Addr → Option Obj} {s : Shared} (h : ∀ a, g a = s.heap.get? a) : obsB n fn sn ex g = (hookB n fn sn ex).obs s := by
  have e : g = s.heap.get? := funext h
  rw [e] <;> rfl
end Ab

namespace Ab
open PySem PySem.Spec PyProof.Rows L2
/-- the script alone is tracked -/
def scrH (a : Addr) (vs : List Value) (ns : List Int) : Hp := fun b => if b = a then some (.frz { cls := .type "list", data := .seq vs.toArray } (.lst (ns.map V.int))) else none
theorem scrH_at {a : Addr} {vs : List Value} {ns : List Int} : scrH a vs ns a = some (.frz { cls := .type "list", data := .seq vs.toArray } (.lst (ns.map V.int))) := if_pos rfl
theorem scrH_ne {a b : Addr} {vs : List Value} {ns : List Int} (h : b ≠ a) : scrH a vs ns b = none := if_neg h
theorem law_callG {P : Program} {w : World} {K : PySem.W.Frag} {mg mb : Str → Option Value} {CX : CXT} {k : Nat} {fa a : Addr} {fd : FuncData} {x : Str} {sp : Sp} {s₁ : Shared} {vs : List Value} {ns : List Int} (KX : K.In s₁.heap) (nl : noLst K = true)
    (hns : s₁.heap.Ns mainGlobals mg) (hb : s₁.heap.Ns builtinsNs mb) (hbb : ∀ x : Str, x ≠ "__name__" → mb x = bootBuiltins x) (hlim : s₁.heap.NoLimit) (hg : s₁.gens = #[]) (ha : s₁.heap.get? a = some { cls := .type "list", data := .seq vs.toArray }) (hi : IntsAre vs ns)
    (hl : ns.length ≤ sizeLine) (hr : Room k callerA) (F : ∀ base : Heap, K.In base → base.Ns mainGlobals mg → FnG P w K mg base CX k fa fd [x] sp) (hbind : ∀ (s : Shared) (u : Value), K.In s.heap → BindsTo s fd ⟨[u], []⟩ [(x, u)])
    (hsp : sp [.ref a] (scrH a vs ns) (fun v _ => v = .bl true) fun _ _ _ => False) (hCX : ∀ H e s', CX [] H s₁ (fun _ _ _ => False) e s' → False) :
    codeAny (model P w) callerA (.call (.ref fa) ⟨[.ref a], []⟩) (fun r s' => r = .ok (.ret (.bool true)) ∧ OldK s₁.heap s'.heap ∧ s'.os = s₁.os ∧ AllBare s'.gens) s₁ := by
  have rv := vals_ints hi
  have hka : K.lookup a = none := by
    cases q : K.lookup a with
    | none => rfl
    | some o =>
      have e := KX a o q
      rw [ha] at e
      cases e
      exact absurd rfl (noLst_ok nl q)
  generalize hH : scrH a vs ns = H at hsp
  have Ha : H a = some (.frz { cls := .type "list", data := .seq vs.toArray } (.lst (ns.map V.int))) := by rw [← hH]; exact scrH_at
  have Hn : ∀ {b : Addr}, b ≠ a → H b = none := fun h => by rw [← hH]; exact scrH_ne h
  have hok : HOk P w H s₁.heap := fun b u z => by
    by_cases c : b = a
    · subst c
      rw [Ha] at z
      cases z
      exact ⟨ha, by rw [List.length_map]; exact hl, vs, _, rv, ha⟩
    · rw [Hn c] at z; cases z
  have keepD : ∀ {b : Addr} {o : Obj} {es : Array DictEntry} {ep : Nat}, s₁.heap.get? b = some o → o.data = .dict es ep → b ≠ a := fun {b o es ep} e d c => by
    subst c
    rw [ha] at e
    cases e
    cases d
  have nsB : ∀ {b : Addr} {m : Str → Option Value}, s₁.heap.Ns b m → (hidT s₁.heap H).Ns b m := fun {b m} ⟨o, es, ep, e, d, r⟩ => ⟨o, es, ep, hidT_get e (Hn (keepD e d)), d, r⟩
  have kB : K.In (hidT s₁.heap H) := fun b o e => hidT_get (KX b o e) (Hn fun c => by rw [c, hka] at e; cases e)
  have md : Mod K mg (hidT s₁.heap H) := ⟨kB, nsB hns, ⟨mb, nsB hb, hbb⟩, let ⟨mc, h1, h2⟩ := hlim; ⟨mc, nsB h1, h2⟩⟩
  have e0 : Env0 P w K mg (hidT s₁.heap H) callerA [] s₁ H := ⟨rfl, md, fun b o e => of_hidT e, Nat.le_of_eq (hidT_size _ _), trivial, fun b z => absurd (show b ∈ ([] : List Addr) from z) (by simp), hok, .of_eq hg⟩
  refine codeAny_mono ((F _ kB (nsB hns)).run callerA [] s₁ H ⟨[.ref a], []⟩ [.ref a] [.ref a] _ _ hr rfl e0 (hbind s₁ (.ref a) KX) (.cons rfl .nil) hsp) fun res s' t => ?_
  match res, t with
  | .error e, t => exact (hCX H e s' t).elim
  | .ok .next, t => exact t.elim
  | .ok .brk, t => exact t.elim
  | .ok .cont, t => exact t.elim
  | .ok (.ret u), ⟨v, H', os, bare, un, hok', r', q⟩ =>
    have qv : v = .bl true := q
    subst qv
    have eu : u = Value.bool true := r'
    subst eu
    refine ⟨rfl, OldK.of_keep fun b o e => ?_, os, bare⟩
    by_cases c : b = a
    · subst c
      have z2 := un.frzs b _ _ Ha
      obtain ⟨e2, _⟩ := hok' b _ z2
      rw [ha] at e
      cases e
      exact e2
    · exact un.keep b o e (Hn c) (fun z => absurd (show b ∈ ([] : List Addr) from z) (by simp)) (by simp)
theorem walk_ofG {l : PySem.W.OpenLaw} {n k : Nat} {q : Program} {loose : List Str} {XP : (Str → Option Value) → Heap → Prop} {YP : World → Heap → Prop} {d : DefRec} {CX : CXT} {x : Str} (hn : l.most = some n) (hn2 : n ≤ sizeLine) (hdf : d.params.defaults = []) (room : Room k callerA)
    (F : ∀ (w : World) (mg : Str → Option Value) (fa : Addr) (h : Heap), YP w h → h.Ns mainGlobals mg → mg d.name = some (.ref fa) → ∃ (K : PySem.W.Frag) (fd : FuncData) (sp : Sp), K.In h ∧ noLst K = true ∧ (∀ (s : Shared) (u : Value), K.In s.heap → BindsTo s fd ⟨[u], []⟩ [(x, u)]) ∧
        (∀ (a : Addr) (vs : List Value) (ns : List Int), ns.length ≤ n → sp [.ref a] (scrH a vs ns) (fun v _ => v = .bl true) fun _ _ _ => False) ∧ ∀ base : Heap, K.In base → base.Ns mainGlobals mg → FnG l.prog w K mg base CX k fa fd [x] sp)
    (hCX : ∀ (H : Hp) (s : Shared) (e : Value) (s' : Shared), CX [] H s (fun _ _ _ => False) e s' → False) : PySem.W.WalkO q loose XP YP l.row.toRowW d [] (fun f vs => PySem.call f vs) := by
  refine Att.attach_call hn hdf fun w s₀ s₁ mg mb fa o pm cd doc a vs ns Gr Y _ _ _ hmg hobj hints hlen hgen => ?_
  obtain ⟨K, fd, sp, KX, nl, bd, hs, hF⟩ := F w mg fa _ Y Gr.T.g hmg
  exact law_callG KX nl Gr.T.g Gr.T.b Gr.T.builtins Gr.T.nolimit hgen hobj hints (Nat.le_trans hlen hn2) room hF bd (hs a vs ns hlen) fun H e s' => hCX H s₁ e s'
end Ab

namespace Ab
open PySem PySem.Spec PyProof.Rows L2
def BindP (u : FuS) : Prop := ∀ (kV doc pm : Value) (an : Option Addr) (cdv ct : Value) (cc : Addr) (us : List Value), us.length = u.ps.length → bindArgs (PySem.W.ksFn u.name u.qual u.par u.body u.scope .none kV doc pm an cdv ct cc) ⟨us.take (u.ps.length - u.ks.length), u.ks.zip (us.drop (u.ps.length - u.ks.length))⟩ = pure (u.ps.zip us)
section
variable {prog : Program} {w : World} {K : PySem.W.Frag} {mg : Str → Option Value} {G : Gx} {us : List Fu} {vs : List FuS} {fbs : List Fb}
theorem st_of (b : MB G K mg) (hf : fbs = (us.map fun u => u.fb G) ++ vs.map fun u => u.fb G) (hu : us.all Fu.ok = true) (hv : vs.all FuS.ok = true) (hG : G.fns = us.map (·.f) ++ vs.map (·.f)) (hk : ((List.range us.length).all fun k => decide (kwOf G k = [])) = true)
    (hk2 : ((List.range vs.length).all fun j => decide (vs[j]?.map (·.ks) = some (kwOf G (us.length + j)))) = true) (F : ∀ (k : Nat) (u : Fu), us[k]? = some u → ∃ fd, FunD K u.name u.qual u.par u.body u.scope [] [] (He.fAd K u.f) fd) (SK : ∀ u ∈ vs, SupK K prog mg G u) (hb : ∀ u ∈ vs, BindP u) :
    ∀ (k : Nat) (f : Str × Option Str), G.fns[k]? = some f → ∃ fb, fbs[k]? = some fb ∧ StepOk prog w K mg G f fb (kwOf G k) := fun k f e => by
  rw [hG] at e
  by_cases c : k < us.length
  · rw [List.getElem?_append_left (by simpa using c), List.getElem?_map] at e
    obtain ⟨u, e1, rfl⟩ := Option.map_eq_some_iff.mp e
    refine ⟨u.fb G, by rw [hf, List.getElem?_append_left (by simpa using c), List.getElem?_map, e1]; rfl, ?_⟩
    have q := of_decide_eq_true (List.all_eq_true.mp hk k (by simpa using c))
    rw [q]
    exact Fu.step b (List.all_eq_true.mp hu u (List.mem_of_getElem? e1)) (F k u e1)
  · obtain ⟨j, rfl⟩ := Nat.exists_eq_add_of_le (Nat.le_of_not_lt c)
    rw [List.getElem?_append_right (by simp), List.length_map, Nat.add_sub_cancel_left, List.getElem?_map] at e
    obtain ⟨u, e1, rfl⟩ := Option.map_eq_some_iff.mp e
    refine ⟨u.fb G, by rw [hf, List.getElem?_append_right (by simp), List.length_map, Nat.add_sub_cancel_left, List.getElem?_map, e1]; rfl, ?_⟩
    have hj : j < vs.length := (List.getElem?_eq_some_iff.mp e1).1
    have q := of_decide_eq_true (List.all_eq_true.mp hk2 j (by simpa using hj))
    rw [e1] at q
    rw [← Option.some.inj q]
    have hm := List.mem_of_getElem? e1
    exact FuS.step b (List.all_eq_true.mp hv u hm) (SK u hm) (hb u hm)
theorem rh_scr {a : Addr} {vs : List Value} {ns : List Int} : RH K G (fun _ => a) (S0 ns) (scrH a vs ns) := by
  refine ⟨fun i j hi hj _ => ?_, fun i hi => ?_⟩
  · have : (S0 ns).n = 1 := rfl
    omega
  · have : (S0 ns).n = 1 := rfl
    have e0 : i = 0 := by omega
    subst e0
    exact ⟨_, _, Hs.get_push_self _ _, scrH_at, .lck (.lst (RVs_ints ns))⟩
theorem sp_lawR {C : Nat → List AV → Hs → Rs AV} {f : Fb} {a : Addr} {vs : List Value} {ns : List Int} {S' : Hs} (h : runFn ⟨G, C⟩ f [.ref 0] (S0 ns) = .ok (.bl true) S') : spR K G C f [.ref a] (scrH a vs ns) (fun v _ => v = .bl true) fun _ _ _ => False := by
  refine ⟨fun _ => a, S0 ns, [.ref 0], rh_scr, .cons (.ref (ι := fun _ => a) (Nat.lt_succ_self 0)) .nil, ?_⟩
  show Aft K G _ _ _ _ _ _ (runFn ⟨G, C⟩ f [.ref 0] (S0 ns))
  rw [h]
  intro ι' H' w' _ _ rv
  cases rv
  rfl
end
theorem FnG.cx {P : Program} {w : World} {K : PySem.W.Frag} {mg : Str → Option Value} {base : Heap} {CX1 CX2 : CXT} {k : Nat} {f : Addr} {fd : FuncData} {ps : List Str} {sp : Sp} (F : FnG P w K mg base CX1 k f fd ps sp) (h : ∀ outer H s E e s', CX1 outer H s E e s' → CX2 outer H s E e s') : FnG P w K mg base CX2 k f fd ps sp :=
  ⟨F.len, fun A outer s H args us vs Q E r g e b v q => codeAny_mono (F.run A outer s H args us vs Q E r g e b v q) fun res s' z => by
    match res, z with
    | .error e, z => exact h _ _ _ _ _ _ z
    | .ok (.ret u), z => exact z
    | .ok .next, z => exact z.elim
    | .ok .brk, z => exact z.elim
    | .ok .cont, z => exact z.elim⟩
theorem cx_false {P : Program} {w : World} {H : Hp} {s : Shared} {e : Value} {s' : Shared} (h : CX P w [] H s (fun _ _ _ => False) e s') : False := by
  obtain ⟨_, _, _, _, _, _, _, _, _, _, _, _, z⟩ := h
  exact z
end Ab

namespace Ab
open PySem L2
section
variable {P : Pe} {n i k m : Nat} {a b c e : E} {es : List E} {ρ ρ1 : Ev} {S : Hs} {α β : Type}
theorem ok_bind (x : α) (S : Hs) (f : α → Hs → Rs β) : (Rs.ok x S).bind f = f x S := id rfl
theorem bad_bind (f : α → Hs → Rs β) : (Rs.bad : Rs α).bind f = .bad := id rfl
theorem ok_st (x : α) (S : Hs) (ρ : Ev) (f : α → Hs → Re) : (Rs.ok x S).st ρ f = f x S := id rfl
theorem nx_seq (ρ : Ev) (S : Hs) (f : Ev → Hs → Re) : (Re.fl (.nx ρ) S).seq f = f ρ S := id rfl
theorem rt_seq (v : AV) (S : Hs) (f : Ev → Hs → Re) : (Re.fl (.rt v) S).seq f = Re.fl (.rt v) S := id rfl
theorem bk_seq (ρ : Ev) (S : Hs) (f : Ev → Hs → Re) : (Re.fl (.bk ρ) S).seq f = Re.fl (.bk ρ) S := id rfl
theorem ct_seq (ρ : Ev) (S : Hs) (f : Ev → Hs → Re) : (Re.fl (.ct ρ) S).seq f = Re.fl (.ct ρ) S := id rfl
theorem nx_turn (ρ : Ev) (S : Hs) (f : Ev → Hs → Re) : turnR (Re.fl (.nx ρ) S) f = f ρ S := id rfl
theorem ct_turn (ρ : Ev) (S : Hs) (f : Ev → Hs → Re) : turnR (Re.fl (.ct ρ) S) f = f ρ S := id rfl
theorem bk_turn (ρ : Ev) (S : Hs) (f : Ev → Hs → Re) : turnR (Re.fl (.bk ρ) S) f = .fl (.nx ρ) S := id rfl
theorem rt_turn (v : AV) (S : Hs) (f : Ev → Hs → Re) : turnR (Re.fl (.rt v) S) f = .fl (.rt v) S := id rfl
theorem ok_nox (x : α) (S : Hs) : (Rs.ok x S).nox = Rs.ok x S := id rfl
theorem exs_nil (f : St → Ev → Hs → Re) : exs f [] ρ S = .fl (.nx ρ) S := id rfl
theorem exs_cons (f : St → Ev → Hs → Re) (s : St) (r : List St) : exs f (s :: r) ρ S = (f s ρ S).seq fun ρ1 S1 => exs f r ρ1 S1 := id rfl
/-- a choice -/
def cnd (c : Bool) (x y : α) : α := if c then x else y
theorem cnd_t (x y : α) : cnd true x y = x := id rfl
theorem cnd_f (x y : α) : cnd false x y = y := id rfl
theorem bind_cg {x x' : Rs α} {f : α → Hs → Rs β} (h : x = x') : x.bind f = x'.bind f := by rw [h]
theorem st_cg {x x' : Rs α} {ρ : Ev} {f : α → Hs → Re} (h : x = x') : x.st ρ f = x'.st ρ f := by rw [h]
theorem seq_cg {x x' : Re} {f : Ev → Hs → Re} (h : x = x') : x.seq f = x'.seq f := by rw [h]
theorem turn_cg {x x' : Re} {f : Ev → Hs → Re} (h : x = x') : turnR x f = turnR x' f := by rw [h]
theorem cnd_cg {c c' : Bool} {x y : α} (h : c = c') : cnd c x y = cnd c' x y := by rw [h]
theorem ch2_cg {c c' : Option Bool} {f : Hs → Rs AV} (h : c = c') : ch2 c S f = ch2 c' S f := by rw [h]
theorem evL_cg {f : E → Hs → Rs AV} : evL f es S = evL f es S := id rfl
theorem evS_cg {f : E → Hs → Rs AV} : evS f es S = evS f es S := id rfl
theorem exs_cg {f : St → Ev → Hs → Re} {l : List St} : exs f l ρ S = exs f l ρ S := id rfl
theorem loopI_cg {it : Itr} {f : AV → β → Hs → Rs β} {x : β} : loopI it f n i x S = loopI it f n i x S := id rfl
theorem forI_cg {it : Itr} {f : AV → Ev → Hs → Re} : forI it f n i ρ S = forI it f n i ρ S := id rfl
/-- a slot that is read -/
def slot (ρ : Ev) (i : Nat) (S : Hs) : Rs AV := match ρ[i]? with
  | some (some v) => .ok v S
  | _ => .bad
theorem slot_z (v : AV) : slot (some v :: ρ) 0 S = .ok v S := id rfl
theorem slot_s (o : Option AV) (i : Nat) : slot (o :: ρ) (i + 1) S = slot ρ i S := id rfl
theorem ev_cst (v : AV) : ev P (n + 1) (.cst v) ρ S = .ok v S := id rfl
theorem ev_var : ev P (n + 1) (.var i) ρ S = slot ρ i S := id rfl
theorem ev_gf : ev P (n + 1) (.gf k) ρ S = .ok (.fn k) S := id rfl
theorem ev_gk : ev P (n + 1) (.gk k) ρ S = .ok (.cl k) S := id rfl
/-- a constant of the module -/
def gcA (G : Gx) (k : Nat) (S : Hs) : Rs AV := match G.cons[k]? with
  | some c => .ok c.2 S
  | none => .bad
theorem ev_gc : ev P (n + 1) (.gc k) ρ S = gcA P.G k S := id rfl
theorem ev_bin (op : Operator) : ev P (n + 1) (.bin op a b) ρ S = (ev P n a ρ S).bind fun x S1 => (ev P n b ρ S1).bind fun y S2 => binA op x y S2 := id rfl
def negA (x : AV) (S : Hs) : Rs AV := match x with
  | .int i => .ok (.int (-i)) S
  | _ => .bad
theorem negA_int (i : Int) : negA (.int i) S = .ok (.int (-i)) S := id rfl
theorem ev_neg : ev P (n + 1) (.neg a) ρ S = (ev P n a ρ S).bind negA := id rfl
theorem tst_bl (x : Bool) : tstA (.bl x) S = .ok x S := id rfl
theorem ev_not : ev P (n + 1) (.not a) ρ S = (ev P n a ρ S).bind fun x S1 => (tstA x S1).bind fun b S2 => .ok (.bl (!b)) S2 := id rfl
theorem ev_and : ev P (n + 1) (.and a b) ρ S = (ev P n a ρ S).bind fun x S1 => (tstA x S1).bind fun c S2 => cnd c (ev P n b ρ S2) (.ok (.bl false) S2) := id rfl
theorem ev_or : ev P (n + 1) (.or a b) ρ S = (ev P n a ρ S).bind fun x S1 => (tstA x S1).bind fun c S2 => cnd c (.ok (.bl true) S2) (ev P n b ρ S2) := id rfl
theorem ev_ite : ev P (n + 1) (.ite c a b) ρ S = (ev P n c ρ S).bind fun x S1 => (tstA x S1).bind fun k S2 => cnd k (ev P n a ρ S2) (ev P n b ρ S2) := id rfl
theorem ev_cmp (op : CmpOp) : ev P (n + 1) (.cmp op a b) ρ S = (ev P n a ρ S).bind fun x S1 => (ev P n b ρ S1).bind fun y S2 => rb S2 (cmpA op x y S2) := id rfl
theorem ev_cmp2 (op op' : CmpOp) : ev P (n + 1) (.cmp2 op op' a b c) ρ S = (ev P n a ρ S).bind fun x S1 => (ev P n b ρ S1).bind fun y S2 => ch2 (cmpA op x y S2) S2 fun S2 => (ev P n c ρ S2).bind fun z S3 => rb S3 (cmpA op' y z S3) := id rfl
theorem rb_some (x : Bool) : rb S (some x) = .ok (.bl x) S := id rfl
theorem ch2_t (f : Hs → Rs AV) : ch2 (some true) S f = f S := id rfl
theorem ch2_f (f : Hs → Rs AV) : ch2 (some false) S f = .ok (.bl false) S := id rfl
def tupA (vs : List AV) (S : Hs) : Rs AV := cnd (okLen vs.length) (.ok (.tup vs) S) .bad
def lstA (vs : List AV) (S : Hs) : Rs AV := cnd (okLen vs.length) (alloc S (.lst vs)) .bad
theorem ev_tup : ev P (n + 1) (.tup es) ρ S = (evS (fun e S => ev P n e ρ S) es S).bind tupA := id rfl
theorem ev_lst : ev P (n + 1) (.lst es) ρ S = (evS (fun e S => ev P n e ρ S) es S).bind lstA := id rfl
theorem ev_idx : ev P (n + 1) (.idx a b) ρ S = (ev P n a ρ S).bind fun x S1 => (ev P n b ρ S1).bind fun y S2 => idxA x y S2 := id rfl
theorem ev_slc (lo hi : Option E) : ev P (n + 1) (.slc a lo hi) ρ S = (ev P n a ρ S).bind fun x S1 => (evO (fun e S => ev P n e ρ S) lo S1).bind fun l S2 => (evO (fun e S => ev P n e ρ S) hi S2).bind fun h S3 => slcA S3 x l h := id rfl
theorem ev_attr (f : Nat) : ev P (n + 1) (.attr a f) ρ S = (ev P n a ρ S).bind fun x S1 => fldA P.G S1 x f := id rfl
theorem ev_call : ev P (n + 1) (.call k es) ρ S = (evL (fun e S => ev P n e ρ S) es S).bind fun vs S1 => P.C k vs S1 := id rfl
theorem ev_blt (f : Bf) : ev P (n + 1) (.blt f es) ρ S = (evL (fun e S => ev P n e ρ S) es S).bind fun vs S1 => bltA f vs S1 := id rfl
theorem ev_isi (ts : List Ty) : ev P (n + 1) (.isi a true ts) ρ S = (ev P n a ρ S).bind fun x S1 => rb S1 (isiA P.G S1 x ts) := id rfl
theorem ev_isiE (ts : List Ty) : ev P (n + 1) (.isi a false ts) ρ S = (ev P n a ρ S).bind fun x S1 => rb S1 (isiE P.G S1 x ts) := id rfl
def fmtR (r : Bool) (x : AV) (S : Hs) : Rs AV := match fmtA r x S with
  | some y => .ok (.str y) S
  | none => .bad
theorem ev_fmt (r : Bool) : ev P (n + 1) (.fmt r a) ρ S = (ev P n a ρ S).bind fun x S1 => fmtR r x S1 := id rfl
def jnR (y : Str) (S : Hs) : Rs AV := .ok (.str y) S
theorem jnR_ok (y : Str) : jnR y S = .ok (.str y) S := id rfl
theorem ev_jn : ev P (n + 1) (.jn es) ρ S = (evJ (fun e S => ev P n e ρ S) es Str.empty S).bind jnR := id rfl
theorem evJ_nil (f : E → Hs → Rs AV) (acc : Str) : evJ f [] acc S = .ok acc S := id rfl
/-- a part's text -/
def jnS (f : Str → Hs → Rs Str) (acc : Str) (v : AV) (S : Hs) : Rs Str := match v with
  | .str y => if okLen (acc ++ y).length then f (acc ++ y) S else .bad
  | _ => .bad
theorem evJ_cons (f : E → Hs → Rs AV) (acc : Str) : evJ f (e :: es) acc S = (f e S).bind fun v S1 => jnS (evJ f es) acc v S1 := id rfl
theorem jnS_str (f : Str → Hs → Rs Str) (acc y : Str) (h : okLen (acc ++ y).length = true) : jnS f acc (.str y) S = f (acc ++ y) S := by
  show (if okLen (acc ++ y).length then f (acc ++ y) S else .bad) = _
  rw [h]; rfl
/-- an exception is made -/
def xmkA (P : Pe) (k : Nat) (vs : List AV) (S : Hs) : Rs AV := match P.G.cls[k]? with
  | some c => (match c.xi with
    | some i => (P.C i (.ref S.n :: vs) (S.push (.exo k none))).bind fun r S3 => if isNon r then .ok (.ref S.n) S3 else .bad
    | none => .bad)
  | none => .bad
theorem ev_xmk : ev P (n + 1) (.xmk k es) ρ S = (evL (fun e S => ev P n e ρ S) es S).bind fun vs S1 => xmkA P k vs S1 := id rfl
/-- super().__init__(..) -/
def xsupA (D : Nat) (o : Option (Option AV)) (S : Hs) (args : Hs → Rs (List AV)) : Rs AV := match o with
  | some (some (AV.ref r)) => (match S.get r with
    | some (.exo k none) => if k = D then (args S).bind fun vs S1 => (match S1.get r with
        | some (.exo k none) => if k = D then .ok .non S1 else .bad
        | _ => .bad) else .bad
    | _ => .bad)
  | _ => .bad
theorem ev_xsup (D : Nat) : ev P (n + 1) (.xsup D es) ρ S = xsupA D ρ[0]? S (fun S => evL (fun e S => ev P n e ρ S) es S) := id rfl
/-- a new instance -/
def mkA (P : Pe) (k : Nat) (vs : List AV) (S : Hs) : Rs AV := match P.G.cls[k]? with
  | some c => (match c.ini with
    | some i => (P.C i (.ref S.n :: vs) (S.push (.ins k []))).bind fun r S3 => if isNon r then .ok (.ref S.n) S3 else .bad
    | none => .bad)
  | none => .bad
theorem ev_make (ks : List E) : ev P (n + 1) (.make k es ks) ρ S = (evL (fun e S => ev P n e ρ S) es S).bind fun vs S1 => (evL (fun e S => ev P n e ρ S) ks S1).bind fun ws S2 => mkA P k (vs ++ ws) S2 := id rfl
/-- a method by values ahead of its arguments -/
def methA (P : Pe) (x : AV) (f : Nat) (b : Option Bm) (S : Hs) (args : Hs → Rs (List AV)) : Rs AV := match insAt S x with
  | some (k, fs) => (match fs.lookup f, (P.G.cls[k]?).bind fun c => c.meths.lookup f with
    | none, some i => (args S).bind fun vs S2 => P.C i (x :: vs) S2
    | _, _ => .bad)
  | none => (match b, tyB S x with
    | some m, some t => if (bmId t m).isSome then (args S).bind fun vs S2 => bmA t m x vs S2 else .bad
    | _, _ => .bad)
theorem ev_meth (f : Nat) (bm : Option Bm) : ev P (n + 1) (.meth a f bm es) ρ S = (ev P n a ρ S).bind fun x S1 => methA P x f bm S1 (fun S => evL (fun e S => ev P n e ρ S) es S) := id rfl
theorem evL_nil (f : E → Hs → Rs AV) : evL f [] S = .ok [] S := id rfl
theorem evL_cons (f : E → Hs → Rs AV) : evL f (e :: es) S = (f e S).bind fun v S1 => (evL f es S1).bind fun vs S2 => .ok (v :: vs) S2 := id rfl
theorem evS_nil (f : E → Hs → Rs AV) : evS f [] S = .ok [] S := id rfl
theorem evS_star (f : E → Hs → Rs AV) : evS f (.star e :: es) S = (f e S).bind fun v S1 => (match seqOf S1 v with
      | some vs => (evS f es S1).bind fun ws S2 => .ok (vs ++ ws) S2
      | none => .bad) := id rfl
theorem evS_one (f : E → Hs → Rs AV) (h : (isStar e) = none) : evS f (e :: es) S = (f e S).bind fun v S1 => (evS f es S1).bind fun vs S2 => .ok (v :: vs) S2 := by
  show (match isStar e with
    | some e' => (f e' S).bind fun v S1 => (match seqOf S1 v with
      | some vs => (evS f es S1).bind fun ws S2 => .ok (vs ++ ws) S2
      | none => .bad)
    | none => (f e S).bind fun v S1 => (evS f es S1).bind fun vs S2 => .ok (v :: vs) S2) = _
  rw [h]
theorem evO_none (f : E → Hs → Rs AV) : evO f none S = .ok none S := id rfl
def optA (v : AV) (S : Hs) : Rs (Option Int) := match v with
  | .int i => .ok (some i) S
  | _ => .bad
theorem optA_int (i : Int) : optA (.int i) S = .ok (some i) S := id rfl
theorem evO_some (f : E → Hs → Rs AV) : evO f (some e) S = (f e S).bind optA := id rfl
/-- statements -/
theorem ex_asg (t : Tg) : ex P (n + 1) (.asg t e) ρ S = (ev P n e ρ S).st ρ fun v S1 => (asg P.G (fun e ρ S => ev P n e ρ S) n t v ρ S1).st ρ fun ρ1 S2 => .fl (.nx ρ1) S2 := id rfl
theorem ex_expr : ex P (n + 1) (.expr e) ρ S = (ev P n e ρ S).st ρ fun _ S1 => .fl (.nx ρ) S1 := id rfl
theorem ex_ife (x y : List St) : ex P (n + 1) (.ife c x y) ρ S = ((ev P n c ρ S).bind tstA).st ρ fun v S1 => cnd v (exs (fun s ρ S => ex P n s ρ S) x ρ S1) (exs (fun s ρ S => ex P n s ρ S) y ρ S1) := id rfl
theorem ex_for (t : Tg) (src : Src) (x : List St) : ex P (n + 1) (.for_ t src x) ρ S = (srcA (fun e S => ev P n e ρ S) src S).st ρ fun it S1 =>
        forI it (fun v ρ S => (asg P.G (fun e ρ S => ev P n e ρ S) n t v ρ S).st ρ fun ρ1 S2 => exs (fun s ρ S => ex P n s ρ S) x ρ1 S2) turns 0 ρ S1 := id rfl
theorem ex_whl (x : List St) : ex P (n + 1) (.whl c x) ρ S = whlI (fun ρ S => (ev P n c ρ S).bind tstA) (fun ρ S => exs (fun s ρ S => ex P n s ρ S) x ρ S) turns ρ S := id rfl
theorem ex_ret0 : ex P (n + 1) (.ret none) ρ S = .fl (.rt .non) S := id rfl
theorem ex_ret : ex P (n + 1) (.ret (some e)) ρ S = (ev P n e ρ S).st ρ fun v S1 => .fl (.rt v) S1 := id rfl
theorem ex_pass : ex P (n + 1) .pass ρ S = .fl (.nx ρ) S := id rfl
theorem ex_brk : ex P (n + 1) .brk ρ S = .fl (.bk ρ) S := id rfl
theorem ex_cnt : ex P (n + 1) .cnt ρ S = .fl (.ct ρ) S := id rfl
/-- a slot that is stored -/
def putS (ρ : Ev) (i : Nat) (v : AV) (S : Hs) : Rs Ev := if i < ρ.length then .ok (ρ.set i (some v)) S else .bad
theorem putS_z (o : Option AV) (v : AV) : putS (o :: ρ) 0 v S = .ok (some v :: ρ) S := id rfl
theorem putS_s (o : Option AV) (i : Nat) (v : AV) : putS (o :: ρ) (i + 1) v S = (putS ρ i v S).bind fun r S => .ok (o :: r) S := by
  unfold putS
  by_cases h : i < ρ.length
  · rw [if_pos h, if_pos (by rw [List.length_cons]; omega)]; rfl
  · rw [if_neg h, if_neg (by rw [List.length_cons]; omega)]; rfl
theorem asg_nm (G : Gx) (f : E → Ev → Hs → Rs AV) (v : AV) : asg G f (n + 1) (.nm i) v ρ S = putS ρ i v S := id rfl
theorem asg_tp (G : Gx) (f : E → Ev → Hs → Rs AV) (ts : List Tg) (xs : List AV) : asg G f (n + 1) (.tp ts) (.tup xs) ρ S = asgL (asg G f n) ts xs ρ S := id rfl
theorem asgL_nil (f : Tg → AV → Ev → Hs → Rs Ev) : asgL f [] [] ρ S = .ok ρ S := id rfl
theorem asgL_cons (f : Tg → AV → Ev → Hs → Rs Ev) (t : Tg) (ts : List Tg) (v : AV) (vs : List AV) : asgL f (t :: ts) (v :: vs) ρ S = (f t v ρ S).nox.bind fun ρ1 S1 => asgL f ts vs ρ1 S1 := id rfl
theorem asg_fld (G : Gx) (f : E → Ev → Hs → Rs AV) (k : Nat) (v : AV) : asg G f (n + 1) (.fld e k) v ρ S = (f e ρ S).bind fun w S1 => (setFA G w k v S1).bind fun _ S2 => .ok ρ S2 := id rfl
theorem asg_ix (G : Gx) (f : E → Ev → Hs → Rs AV) (v : AV) : asg G f (n + 1) (.ix a b) v ρ S = (f a ρ S).bind fun w S1 => (f b ρ S1).bind fun j S2 => (setIA w j v S2).bind fun _ S3 => .ok ρ S3 := id rfl
/-- what a body leaves -/
def endF : Re → Rs AV
  | .fl (.nx _) S' => .ok .non S'
  | .fl (.rt v) S' => .ok v S'
  | .exc x _ S' => .exc x S'
  | _ => .bad
theorem endF_nx : endF (.fl (.nx ρ) S) = .ok .non S := id rfl
theorem endF_rt (v : AV) : endF (.fl (.rt v) S) = .ok v S := id rfl
theorem runFn_eq (f : Fb) (vs : List AV) : runFn P f vs S = if vs.length = f.np then endF (exs (fun s ρ S => ex P depth0 s ρ S) f.body (vs.map some ++ List.replicate (f.n - vs.length) none) S) else .bad := by
  unfold runFn
  by_cases h : vs.length = f.np
  · rw [if_pos h, if_pos h]; rfl
  · rw [if_neg h, if_neg h]
theorem endF_cg {x x' : Re} (h : x = x') : endF x = endF x' := by rw [h]
/-- a def's slots -/
def envO : List AV → Nat → Ev
  | _, 0 => []
  | [], n + 1 => none :: envO [] n
  | v :: vs, n + 1 => some v :: envO vs n
theorem envO_z (vs : List AV) : envO vs 0 = [] := by cases vs <;> rfl
theorem envO_n (n : Nat) : envO [] (n + 1) = none :: envO [] n := id rfl
theorem envO_c (v : AV) (vs : List AV) (n : Nat) : envO (v :: vs) (n + 1) = some v :: envO vs n := id rfl
theorem envO_eq : ∀ (vs : List AV) (n : Nat), vs.length ≤ n → vs.map some ++ List.replicate (n - vs.length) none = envO vs n
  | [], 0, _ => rfl
  | [], n + 1, _ => by
    show List.replicate (n + 1) none = none :: envO [] n
    rw [List.replicate_succ, ← envO_eq [] n (Nat.zero_le _)]; rfl
  | v :: vs, 0, h => absurd h (by simp)
  | v :: vs, n + 1, h => by
    rw [envO_c, ← envO_eq vs n (by simpa using h)]
    simp
theorem call_eq {G : Gx} {fb : List Fb} {d k : Nat} {f : Fb} {vs : List AV} (h : fb[k]? = some f) (hl : vs.length = f.np) (hn : f.np ≤ f.n) (hg : G.grd.contains k = false) :
    callN G fb (d + 1) k vs S = endF (exs (fun s ρ S => ex ⟨G, callN G fb d⟩ 400 s ρ S) f.body (envO vs f.n) S) := by
  show (match fb[k]? with
    | some f => if (G.grd.contains k && noRefs vs) = true then liftG S (runFn ⟨G, callN G fb d⟩ f vs ⟨.nil, 0⟩) else runFn ⟨G, callN G fb d⟩ f vs S
    | none => .bad) = _
  rw [h, ← envO_eq vs f.n (by rw [hl]; exact hn), hg]
  show runFn _ f vs S = _
  rw [runFn_eq, if_pos hl]; rfl
theorem call_grd {G : Gx} {fb : List Fb} {d k : Nat} {f : Fb} {vs : List AV} (h : fb[k]? = some f) (hg : G.grd.contains k = true) (hv : noRefs vs = true) :
    callN G fb (d + 1) k vs S = liftG S (runFn ⟨G, callN G fb d⟩ f vs ⟨.nil, 0⟩) := by
  show (match fb[k]? with
    | some f => if (G.grd.contains k && noRefs vs) = true then liftG S (runFn ⟨G, callN G fb d⟩ f vs ⟨.nil, 0⟩) else runFn ⟨G, callN G fb d⟩ f vs S
    | none => .bad) = _
  rw [h, hg, hv]; rfl
def ofO (o : Option AV) (S : Hs) : Rs AV := match o with
  | some v => .ok v S
  | none => .bad
theorem ofO_some (v : AV) : ofO (some v) S = .ok v S := id rfl
def idxI (o : Option AO) (i : Int) (S : Hs) : Rs AV := match o with
  | some (.lst xs) => ofO (atI xs i) S
  | some (.lck (.lst xs)) => ofO (atI xs i) S
  | some (.dct kvs) => ofO (getK kvs (.inl i)) S
  | some (.lck (.dct kvs)) => ofO (getK kvs (.inl i)) S
  | _ => .bad
theorem idxI_l (xs : List AV) (i : Int) : idxI (some (.lst xs)) i S = ofO (atI xs i) S := id rfl
theorem idxI_k (xs : List AV) (i : Int) : idxI (some (.lck (.lst xs))) i S = ofO (atI xs i) S := id rfl
theorem idx_ri (r : Nat) (i : Int) : idxA (.ref r) (.int i) S = idxI (S.get r) i S := by
  have e1 : seqOf S (.ref r) = (match S.get r with | some o => o.seq | none => none) := id rfl
  have e2 : dictOf S (.ref r) = (match S.get r with | some o => o.dict | none => none) := id rfl
  unfold idxA idxI
  rw [e1, e2]
  cases S.get r with
  | none => rfl
  | some o =>
    cases o with
    | lck o => cases o <;> first | rfl | (simp only [AO.seq, AO.dict, Ab.keyOf, ofO])
    | _ => first | rfl | (simp only [AO.seq, AO.dict, Ab.keyOf, ofO])
def idxS (o : Option AO) (x : Str) (S : Hs) : Rs AV := match o with
  | some (.dct kvs) => ofO (getK kvs (.inr x)) S
  | some (.lck (.dct kvs)) => ofO (getK kvs (.inr x)) S
  | _ => .bad
theorem idxS_d (kvs : List (Key × AV)) (x : Str) : idxS (some (.dct kvs)) x S = ofO (getK kvs (.inr x)) S := id rfl
theorem idx_rs (r : Nat) (x : Str) : idxA (.ref r) (.str x) S = idxS (S.get r) x S := by
  have e1 : seqOf S (.ref r) = (match S.get r with | some o => o.seq | none => none) := id rfl
  have e2 : dictOf S (.ref r) = (match S.get r with | some o => o.dict | none => none) := id rfl
  unfold idxA idxS
  rw [e1, e2]
  cases S.get r with
  | none => rfl
  | some o =>
    cases o with
    | lck o => cases o <;> first | rfl | (simp only [AO.seq, AO.dict, Ab.keyOf, ofO])
    | _ => first | rfl | (simp only [AO.seq, AO.dict, Ab.keyOf, ofO])
theorem idx_ti (xs : List AV) (i : Int) : idxA (.tup xs) (.int i) S = ofO (atI xs i) S := by
  show (match atI xs i with
      | some v => Rs.ok v S
      | none => Rs.bad) = _
  rfl
/-- a field -/
def fldO (G : Gx) (o : Option AO) (f : Nat) (S : Hs) : Rs AV := match o with
  | some (.ins k fs) => cnd (isFld G k f) (ofO (fs.lookup f) S) .bad
  | some (.exo k (some n)) => (match S.get n with
    | some (.xdc fs) => (match fs.lookup f with
      | some v => if isXf G k f = true then Rs.ok v S else .bad
      | none => .bad)
    | _ => .bad)
  | _ => .bad
theorem fldO_i (G : Gx) (k : Nat) (fs : List (Nat × AV)) (f : Nat) : fldO G (some (.ins k fs)) f S = cnd (isFld G k f) (ofO (fs.lookup f) S) .bad := id rfl
theorem fld_r (G : Gx) (r f : Nat) : fldA G S (.ref r) f = fldO G (S.get r) f S := by
  show (match S.get r with
    | some (.ins k fs) => (match fs.lookup f with
      | some v => if isFld G k f = true then Rs.ok v S else .bad
      | none => .bad)
    | some (.exo k (some n)) => (match S.get n with
      | some (.xdc fs) => (match fs.lookup f with
        | some v => if isXf G k f = true then Rs.ok v S else .bad
        | none => .bad)
      | _ => .bad)
    | _ => .bad) = _
  unfold fldO
  cases S.get r with
  | none => rfl
  | some o =>
    cases o with
    | ins k fs =>
      show (match fs.lookup f with | some v => if isFld G k f = true then Rs.ok v S else .bad | none => .bad) = cnd (isFld G k f) (ofO (fs.lookup f) S) .bad
      cases fs.lookup f with
      | none => cases isFld G k f <;> rfl
      | some v => cases isFld G k f <;> rfl
    | exo k d => cases d <;> rfl
    | _ => rfl
/-- a method of an own class -/
def mthO (G : Gx) (k f : Nat) : Option Nat := (G.cls[k]?).bind fun c => c.meths.lookup f
theorem meth_ins {r k f i : Nat} {fs : List (Nat × AV)} {bm : Option Bm} {args : Hs → Rs (List AV)} (h1 : S.get r = some (.ins k fs)) (h2 : fs.lookup f = none) (h3 : mthO P.G k f = some i) :
    methA P (.ref r) f bm S args = (args S).bind fun vs S2 => P.C i (.ref r :: vs) S2 := by
  have e1 : insAt S (.ref r) = some (k, fs) := by
    show (match S.get r with | some (.ins k fs) => some (k, fs) | _ => none) = _
    rw [h1]
  unfold methA
  rw [e1]
  show (match fs.lookup f, (P.G.cls[k]?).bind fun c => c.meths.lookup f with
    | none, some i => (args S).bind fun vs S2 => P.C i (.ref r :: vs) S2
    | _, _ => .bad) = _
  have h4 : ((P.G.cls[k]?).bind fun c => c.meths.lookup f) = some i := h3
  rw [h2, h4]
theorem meth_lst {r f : Nat} {xs : List AV} {m : Bm} {args : Hs → Rs (List AV)} (h1 : S.get r = some (.lst xs)) (h2 : (bmId .lst m).isSome = true) :
    methA P (.ref r) f (some m) S args = (args S).bind fun vs S2 => bmA .lst m (.ref r) vs S2 := by
  have e1 : insAt S (.ref r) = none := by
    show (match S.get r with | some (.ins k fs) => some (k, fs) | _ => none) = _
    rw [h1]
  have e2 : tyB S (.ref r) = some .lst := by
    show (match S.get r with
      | some (.lst _) => some Bt.lst
      | some (.lck (.lst _)) => some .lst
      | some (.dct _) => some .dct
      | _ => none) = _
    rw [h1]
  unfold methA
  rw [e1, e2]
  show (if (bmId .lst m).isSome = true then _ else _) = _
  rw [if_pos h2]
theorem meth_str {x : Str} {f : Nat} {m : Bm} {args : Hs → Rs (List AV)} (h2 : (bmId .str m).isSome = true) :
    methA P (.str x) f (some m) S args = (args S).bind fun vs S2 => bmA .str m (.str x) vs S2 := by
  show (if (bmId .str m).isSome = true then _ else _) = _
  rw [if_pos h2]
theorem eq_d (x y : AV) : cmpA .Eq x y S = eqA S x y := id rfl
theorem ne_d (x y : AV) : cmpA .NotEq x y S = (eqA S x y).map (!·) := id rfl
theorem lt_d (i j : Int) : cmpA .Lt (.int i) (.int j) S = some (decide (i < j)) := id rfl
theorem le_d (i j : Int) : cmpA .LtE (.int i) (.int j) S = some (decide (i ≤ j)) := id rfl
theorem gt_d (i j : Int) : cmpA .Gt (.int i) (.int j) S = some (decide (j < i)) := id rfl
theorem ge_d (i j : Int) : cmpA .GtE (.int i) (.int j) S = some (decide (j ≤ i)) := id rfl
theorem is_d (x : AV) : cmpA .Is x .non S = some (isNon x) := id rfl
theorem isnot_d (x : AV) : cmpA .IsNot x .non S = some (!isNon x) := id rfl
theorem in_d (x y : AV) : cmpA .In x y S = inA x y S := id rfl
theorem notin_d (x y : AV) : cmpA .NotIn x y S = (inA x y S).map (!·) := id rfl
theorem map_some (x : Bool) : Option.map (fun x => !x) (some x) = some (!x) := id rfl
theorem eqA_int (i j : Int) : eqA S (.int i) (.int j) = some (i == j) := id rfl
theorem eqA_bl (i j : Bool) : eqA S (.bl i) (.bl j) = some (i == j) := id rfl
theorem eqA_str (x y : Str) (h1 : PyData.strOk x = true) (h2 : PyData.strOk y = true) : eqA S (.str x) (.str y) = some (x == y) := id rfl
theorem len_tup (xs : List AV) : bltA .len [.tup xs] S = .ok (.int xs.length) S := id rfl
def lenO (o : Option AO) (S : Hs) : Rs AV := match o with
  | some (.lst xs) => .ok (.int xs.length) S
  | some (.lck (.lst xs)) => .ok (.int xs.length) S
  | some (.dct kvs) => .ok (.int kvs.length) S
  | _ => .bad
theorem lenO_l (xs : List AV) : lenO (some (.lst xs)) S = .ok (.int xs.length) S := id rfl
theorem lenO_k (xs : List AV) : lenO (some (.lck (.lst xs))) S = .ok (.int xs.length) S := id rfl
theorem lenO_d (xs : List (Key × AV)) : lenO (some (.dct xs)) S = .ok (.int xs.length) S := id rfl
theorem len_ref (r : Nat) : bltA .len [.ref r] S = lenO (S.get r) S := by
  show (match seqOf S (.ref r) with
    | some ys => Rs.ok (AV.int ys.length) S
    | none => (match dctOf S (.ref r) with
      | some kvs => .ok (AV.int kvs.length) S
      | none => .bad)) = _
  have e1 : seqOf S (.ref r) = (match S.get r with | some o => o.seq | none => none) := id rfl
  have e2 : dctOf S (.ref r) = (match S.get r with | some (.dct kvs) => some kvs | _ => none) := id rfl
  unfold lenO
  rw [e1, e2]
  cases S.get r with
  | none => rfl
  | some o =>
    cases o with
    | lck o => cases o <;> rfl
    | _ => rfl
theorem int_int (i : Int) : bltA .int [.int i] S = .ok (.int i) S := id rfl
theorem add_int (i j : Int) : binA .Add (.int i) (.int j) S = .ok (.int (i + j)) S := id rfl
theorem sub_int (i j : Int) : binA .Sub (.int i) (.int j) S = .ok (.int (i - j)) S := id rfl
theorem mul_int (i j : Int) (h : mulOk i j = true) : binA .Mult (.int i) (.int j) S = .ok (.int (i * j)) S := by
  show (match (if mulOk i j then some (i * j) else none) with | some k => Rs.ok (AV.int k) S | none => .bad) = _
  rw [h]; rfl
theorem mod_int (i j : Int) (h : j ≠ 0) : binA .Mod (.int i) (.int j) S = .ok (.int (i.fmod j)) S := by
  show (match (if j ≠ 0 then some (i.fmod j) else none) with | some k => Rs.ok (AV.int k) S | none => .bad) = _
  rw [if_pos h]
theorem div_int (i j : Int) (h : j ≠ 0 ∧ j.natAbs < 1073741824) : binA .FloorDiv (.int i) (.int j) S = .ok (.int (i.fdiv j)) S := by
  show (match (if j ≠ 0 ∧ j.natAbs < 1073741824 then some (i.fdiv j) else none) with | some k => Rs.ok (AV.int k) S | none => .bad) = _
  rw [if_pos h]
theorem max_int (i j : Int) : bltA .max [.int i, .int j] S = .ok (.int (if j > i then j else i)) S := id rfl
theorem min_int (i j : Int) : bltA .min [.int i, .int j] S = .ok (.int (if j < i then j else i)) S := id rfl
def setO (r : Nat) (o : Option AO) (i : Int) (v : AV) (S : Hs) : Rs Unit := match o with
  | some (.lst xs) => (match ixN xs.length i with
    | some n => .ok () (S.set r (.lst (xs.set n v)))
    | none => .bad)
  | some (.dct kvs) => if kvs.length < sizeLine then .ok () (S.set r (.dct (putKA kvs (.inl i) v))) else .bad
  | _ => .bad
theorem setI_ri (r : Nat) (i : Int) (v : AV) : setIA (.ref r) (.int i) v S = setO r (S.get r) i v S := by
  show (match S.get r with
    | some (.lst xs) => (match ixN xs.length i with
        | some n => Rs.ok () (S.set r (.lst (xs.set n v)))
        | none => .bad)
    | some (.dct kvs) => if kvs.length < sizeLine then .ok () (S.set r (.dct (putKA kvs (.inl i) v))) else .bad
    | _ => .bad) = _
  unfold setO
  cases S.get r with
  | none => rfl
  | some o => cases o <;> rfl
theorem setO_l {r : Nat} {xs : List AV} {i : Int} {n : Nat} (v : AV) (h : ixN xs.length i = some n) : setO r (some (.lst xs)) i v S = .ok () (S.set r (.lst (xs.set n v))) := by
  show (match ixN xs.length i with | some n => Rs.ok () (S.set r (.lst (xs.set n v))) | none => .bad) = _
  rw [h]
end
end Ab

namespace Ab
open PySem L2
/-- the heap grows; only what M names is changed -/
structure Fr (M : Nat → Prop) (S S' : Hs) : Prop where
  n : S.n ≤ S'.n
  get : ∀ i, i < S.n → ¬ M i → S'.get i = S.get i
abbrev Ext (S S' : Hs) : Prop := Fr (fun _ => False) S S'
theorem Fr.refl {M : Nat → Prop} {S : Hs} : Fr M S S := ⟨Nat.le_refl _, fun _ _ _ => rfl⟩
theorem Fr.trans {M : Nat → Prop} {S S1 S2 : Hs} (a : Fr M S S1) (b : Fr M S1 S2) : Fr M S S2 :=
  ⟨Nat.le_trans a.n b.n, fun i h m => (b.get i (Nat.lt_of_lt_of_le h a.n) m).trans (a.get i h m)⟩
theorem Fr.mono {M M' : Nat → Prop} {S S1 : Hs} (a : Fr M S S1) (h : ∀ i, i < S.n → M i → M' i) : Fr M' S S1 := ⟨a.n, fun i hi m => a.get i hi fun z => m (h i hi z)⟩
theorem Fr.ext {M : Nat → Prop} {S S1 : Hs} (a : Ext S S1) : Fr M S S1 := a.mono fun _ _ z => z.elim
theorem Fr.push {M : Nat → Prop} {S : Hs} {o : AO} : Fr M S (S.push o) := ⟨Nat.le_succ _, fun i h _ => Hs.get_push_ne (Nat.ne_of_lt h)⟩
theorem Fr.set {M : Nat → Prop} {S : Hs} {r : Nat} {o : AO} (h : M r) : Fr M S (S.set r o) := ⟨Nat.le_refl _, fun i hi m => Hs.get_set_ne fun e => m (e ▸ h)⟩
theorem Fr.at {M : Nat → Prop} {S S' : Hs} (a : Fr M S S') {i : Nat} {o : AO} (h : S.get i = some o) (m : ¬ M i) : S'.get i = some o := (a.get i (Hs.lt_of_get h) m).trans h
theorem Ext.at {S S' : Hs} (a : Ext S S') {i : Nat} {o : AO} (h : S.get i = some o) : S'.get i = some o := Fr.at a h id
section
variable {α β : Type} {it : Itr} {m N : Nat}
theorem loopI_go {f : AV → β → Hs → Rs β} (I : Nat → β → Hs → Prop)
    (step : ∀ i b S, i < N → I i b S → ∃ v, it.at i S = some (some v) ∧ ∃ b' S', f v b S = .ok b' S' ∧ I (i + 1) b' S')
    (stop : ∀ b S, I N b S → it.at N S = some none) : ∀ (m i : Nat) (b : β) (S : Hs), i ≤ N → N - i < m → I i b S → ∃ b' S', loopI it f m i b S = .ok b' S' ∧ I N b' S'
  | 0, i, b, S, hi, hm, h => absurd hm (Nat.not_lt_zero _)
  | m + 1, i, b, S, hi, hm, h => by
    by_cases c : i < N
    · obtain ⟨v, e1, b', S', e2, h2⟩ := step i b S c h
      obtain ⟨b2, S2, e3, h3⟩ := loopI_go I step stop m (i + 1) b' S' c (by omega) h2
      refine ⟨b2, S2, ?_, h3⟩
      show (match it.at i S with
        | none => Rs.bad
        | some none => .ok b S
        | some (some v) => (f v b S).bind fun b' S' => loopI it f m (i + 1) b' S') = _
      rw [e1]
      show (f v b S).bind _ = _
      rw [e2]; exact e3
    · have e : i = N := by omega
      subst e
      refine ⟨b, S, ?_, h⟩
      show (match it.at i S with
        | none => Rs.bad
        | some none => .ok b S
        | some (some v) => (f v b S).bind fun b' S' => loopI it f m (i + 1) b' S') = _
      rw [stop b S h]
theorem loopI_inv {f : AV → β → Hs → Rs β} (I : Nat → β → Hs → Prop) (hN : N < m)
    (step : ∀ i b S, i < N → I i b S → ∃ v, it.at i S = some (some v) ∧ ∃ b' S', f v b S = .ok b' S' ∧ I (i + 1) b' S')
    (stop : ∀ b S, I N b S → it.at N S = some none) {b : β} {S : Hs} (h : I 0 b S) : ∃ b' S', loopI it f m 0 b S = .ok b' S' ∧ I N b' S' :=
  loopI_go I step stop m 0 b S (Nat.zero_le _) (by omega) h
/-- a for that may return -/
theorem forI_go {f : AV → Ev → Hs → Re} (I : Nat → Ev → Hs → Prop) (R : AV → Hs → Prop)
    (step : ∀ i ρ S, i < N → I i ρ S → ∃ v, it.at i S = some (some v) ∧ ((∃ ρ' S', (f v ρ S = .fl (.nx ρ') S' ∨ f v ρ S = .fl (.ct ρ') S') ∧ I (i + 1) ρ' S') ∨ ∃ x S', f v ρ S = .fl (.rt x) S' ∧ R x S'))
    (stop : ∀ ρ S, I N ρ S → it.at N S = some none) : ∀ (m i : Nat) (ρ : Ev) (S : Hs), i ≤ N → N - i < m → I i ρ S →
      (∃ ρ' S', forI it f m i ρ S = .fl (.nx ρ') S' ∧ I N ρ' S') ∨ ∃ x S', forI it f m i ρ S = .fl (.rt x) S' ∧ R x S'
  | 0, i, ρ, S, hi, hm, h => absurd hm (Nat.not_lt_zero _)
  | m + 1, i, ρ, S, hi, hm, h => by
    have un : forI it f (m + 1) i ρ S = (match it.at i S with
        | none => .bad
        | some none => .fl (.nx ρ) S
        | some (some v) => turnR (f v ρ S) fun ρ1 S1 => forI it f m (i + 1) ρ1 S1) := id rfl
    by_cases c : i < N
    · obtain ⟨v, e1, h1⟩ := step i ρ S c h
      rw [e1] at un
      rcases h1 with ⟨ρ', S', e2, h2⟩ | ⟨x, S', e2, h2⟩
      · have e3 : forI it f (m + 1) i ρ S = forI it f m (i + 1) ρ' S' := by
          rw [un]
          rcases e2 with e2 | e2
          · show turnR (f v ρ S) _ = _
            rw [e2]; rfl
          · show turnR (f v ρ S) _ = _
            rw [e2]; rfl
        rw [e3]
        exact forI_go I R step stop m (i + 1) ρ' S' c (by omega) h2
      · refine .inr ⟨x, S', ?_, h2⟩
        rw [un]
        show turnR (f v ρ S) _ = _
        rw [e2]; rfl
    · have e : i = N := by omega
      subst e
      rw [stop ρ S h] at un
      exact .inl ⟨ρ, S, un, h⟩
theorem forI_inv {f : AV → Ev → Hs → Re} (I : Nat → Ev → Hs → Prop) (hN : N < m)
    (step : ∀ i ρ S, i < N → I i ρ S → ∃ v, it.at i S = some (some v) ∧ ∃ ρ' S', (f v ρ S = .fl (.nx ρ') S' ∨ f v ρ S = .fl (.ct ρ') S') ∧ I (i + 1) ρ' S')
    (stop : ∀ ρ S, I N ρ S → it.at N S = some none) {ρ : Ev} {S : Hs} (h : I 0 ρ S) : ∃ ρ' S', forI it f m 0 ρ S = .fl (.nx ρ') S' ∧ I N ρ' S' := by
  rcases forI_go I (fun _ _ => False) (fun i ρ S hi h => let ⟨v, e, q⟩ := step i ρ S hi h; ⟨v, e, .inl q⟩) stop m 0 ρ S (Nat.zero_le _) (by omega) h with q | ⟨x, S', _, q⟩
  · exact q
  · exact q.elim
end
theorem at_seq {S : Hs} {r : Nat} {xs : List AV} (h : S.get r = some (.lst xs)) (i : Nat) : (Itr.seq r).at i S = some xs[i]? := by
  show (match seqAt S r with | some xs => some xs[i]? | none => none) = _
  have e : seqAt S r = some xs := by
    show (match S.get r with | some o => o.seq | none => none) = _
    rw [h]; rfl
  rw [e]
theorem at_tup {S : Hs} {xs : List AV} (i : Nat) : (Itr.tup xs).at i S = some xs[i]? := id rfl
theorem at_rng {S : Hs} {lo : Int} {n i : Nat} (h : i < n) : (Itr.rng lo n).at i S = some (some (.int (lo + i))) := by
  show some (if i < n then some (AV.int (lo + i)) else none) = _
  rw [if_pos h]
theorem at_rngE {S : Hs} {lo : Int} {n : Nat} : (Itr.rng lo n).at n S = some none := by
  show some (if n < n then some (AV.int (lo + n)) else none) = _
  rw [if_neg (Nat.lt_irrefl _)]
theorem at_enL {S : Hs} {r : Nat} {xs : List AV} (h : S.get r = some (.lst xs)) (i : Nat) : (Itr.enL r).at i S = some (xs[i]?.map fun x => .tup [.int i, x]) := by
  show (match seqAt S r with | some xs => some (xs[i]?.map fun x => AV.tup [.int i, x]) | none => none) = _
  have e : seqAt S r = some xs := by
    show (match S.get r with | some o => o.seq | none => none) = _
    rw [h]; rfl
  rw [e]
theorem at_str {S : Hs} {x : Str} (i : Nat) : (Itr.str x).at i S = some ((x.cps.toList[i]?).map fun c => .str ⟨#[c]⟩) := id rfl
section
variable {P : Pe} {n i k m : Nat} {a b c e : E} {es : List E} {ρ ρ1 : Ev} {S : Hs} {α β : Type}
def srcV (v : AV) (S1 : Hs) : Rs Itr := match v with
    | .tup xs => .ok (.tup xs) S1
    | .str x => .ok (.str x) S1
    | .ref r => (match seqAt S1 r with
      | some _ => .ok (.seq r) S1
      | none => .bad)
    | _ => .bad
theorem src_e (f : E → Hs → Rs AV) : srcA f (.e a) S = (f a S).bind srcV := id rfl
theorem srcV_t (xs : List AV) : srcV (.tup xs) S = .ok (.tup xs) S := id rfl
theorem srcV_s (x : Str) : srcV (.str x) S = .ok (.str x) S := id rfl
def srcO (r : Nat) (o : Option AO) (S : Hs) : Rs Itr := match o with
  | some o => (match o.seq with
    | some _ => .ok (.seq r) S
    | none => .bad)
  | none => .bad
theorem srcV_r (r : Nat) : srcV (.ref r) S = srcO r (S.get r) S := by
  show (match seqAt S r with | some _ => Rs.ok (Itr.seq r) S | none => .bad) = _
  have e : seqAt S r = (match S.get r with | some o => o.seq | none => none) := id rfl
  rw [e]
  unfold srcO
  cases S.get r with
  | none => rfl
  | some o => rfl
theorem srcO_l (r : Nat) (xs : List AV) : srcO r (some (.lst xs)) S = .ok (.seq r) S := id rfl
def rngV (v : AV) (S1 : Hs) : Rs Itr := match v with
    | .int i => cnd (decide (-(2 ^ 62) ≤ i ∧ i < 2 ^ 62)) (.ok (.rng 0 i.toNat) S1) .bad
    | _ => .bad
theorem src_r (f : E → Hs → Rs AV) : srcA f (.rng none a) S = (f a S).bind rngV := by
  show ((f a S).bind fun v S1 => (match v with
    | .int i => if -(2 ^ 62) ≤ i ∧ i < 2 ^ 62 then Rs.ok (Itr.rng 0 i.toNat) S1 else .bad
    | _ => .bad)) = _
  congr 1
  funext v S1
  unfold rngV
  cases v with
  | int i => simp only [cnd, decide_eq_true_eq]
  | _ => rfl
theorem rngV_i (i : Int) (h : 0 ≤ i ∧ i < 2 ^ 62) : rngV (.int i) S = .ok (.rng 0 i.toNat) S := by
  show cnd (decide (-(2 ^ 62) ≤ i ∧ i < 2 ^ 62)) _ _ = _
  rw [decide_eq_true (by omega)]; rfl
def rng2 (u v : AV) (S2 : Hs) : Rs Itr := match u, v with
    | .int i, .int j => cnd (decide ((-(2 ^ 62) ≤ i ∧ i < 2 ^ 62) ∧ (-(2 ^ 62) ≤ j ∧ j < 2 ^ 62))) (.ok (.rng i (j - i).toNat) S2) .bad
    | _, _ => .bad
def enmV (v : AV) (S : Hs) : Rs Itr := match v with
    | .ref r => (match seqAt S r with
      | some _ => .ok (.enL r) S
      | none => .bad)
    | _ => .bad
theorem src_en (f : E → Hs → Rs AV) : srcA f (.enm a) S = (f a S).bind enmV := id rfl
theorem enmV_l {r : Nat} {xs : List AV} (h : S.get r = some (.lst xs)) : enmV (.ref r) S = .ok (.enL r) S := by
  show (match seqAt S r with | some _ => Rs.ok (Itr.enL r) S | none => .bad) = _
  have e : seqAt S r = some xs := by
    show (match S.get r with | some o => o.seq | none => none) = _
    rw [h]; rfl
  rw [e]
def lcF (P : Pe) (n : Nat) (elt : E) (tg : Tg) (ifs : List E) (own : List Nat) (ρ : Ev) (v : AV) (acc : List AV) (S : Hs) : Rs (List AV) := match asgC own tg v (wipeA ρ own) with
  | some ρ1 => ((evT (fun e S => ev P n e ρ1 S) ifs S).bind fun b S3 => if b then (ev P n elt ρ1 S3).bind fun x S4 => if acc.length < sizeLine then .ok (acc ++ [x]) S4 else .bad else .ok acc S3).nox
  | none => .bad
def lcE (acc : List AV) (S : Hs) : Rs AV := alloc S (.lst acc)
theorem ev_lc {elt : E} {tg : Tg} {src : Src} {ifs : List E} {own : List Nat} : ev P (n + 1) (.lc elt tg src ifs own) ρ S = (srcA (fun e S => ev P n e ρ S) src S).bind fun it S1 => (loopI it (lcF P n elt tg ifs own ρ) turns 0 [] S1).bind lcE := id rfl
theorem lcF_one {elt : E} {tg : Tg} {own : List Nat} {v x : AV} {acc : List AV} {S' : Hs} (h1 : asgC own tg v (wipeA ρ own) = some ρ1) (h2 : ev P n elt ρ1 S = .ok x S') (h3 : acc.length < 100000) : lcF P n elt tg [] own ρ v acc S = .ok (acc ++ [x]) S' := by
  unfold lcF
  rw [h1]
  show (((Rs.ok true S).bind fun b S3 => if b = true then (ev P n elt ρ1 S3).bind fun x S4 => if acc.length < sizeLine then Rs.ok (acc ++ [x]) S4 else .bad else .ok acc S3).nox) = _
  show ((ev P n elt ρ1 S).bind fun x S4 => if acc.length < sizeLine then Rs.ok (acc ++ [x]) S4 else .bad).nox = _
  rw [h2]
  show (if acc.length < sizeLine then Rs.ok (acc ++ [x]) S' else .bad).nox = _
  rw [if_pos (by rw [sizeLine_eq]; omega)]; rfl
theorem lcF_if {elt t : E} {tg : Tg} {own : List Nat} {v x : AV} {acc : List AV} {bb : Bool} (h1 : asgC own tg v (wipeA ρ own) = some ρ1) (h0 : ev P n t ρ1 S = .ok (.bl bb) S) (h2 : bb = true → ev P n elt ρ1 S = .ok x S) (h3 : acc.length < 100000) : lcF P n elt tg [t] own ρ v acc S = .ok (if bb then acc ++ [x] else acc) S := by
  unfold lcF
  rw [h1]
  show ((((ev P n t ρ1 S).bind fun v S1 => (tstA v S1).bind fun b S2 => if b = true then Rs.ok true S2 else .ok false S2).bind fun b S3 => if b = true then (ev P n elt ρ1 S3).bind fun x S4 => if acc.length < sizeLine then Rs.ok (acc ++ [x]) S4 else .bad else .ok acc S3).nox) = _
  rw [h0]
  cases bb with
  | false => rfl
  | true =>
    show ((ev P n elt ρ1 S).bind fun x S4 => if acc.length < sizeLine then Rs.ok (acc ++ [x]) S4 else .bad).nox = _
    rw [h2 rfl]
    show (if acc.length < sizeLine then Rs.ok (acc ++ [x]) S else .bad).nox = _
    rw [if_pos (by rw [sizeLine_eq]; omega)]; rfl
/-- a comprehension whose items leave the heap as it is -/
theorem lc_map {it : Itr} {f : AV → List AV → Hs → Rs (List AV)} {xs : List AV} {g : AV → AV} (hit : ∀ i, it.at i S = some xs[i]?) (hl : xs.length < 100000) (h : ∀ (x : AV) (acc : List AV), x ∈ xs → acc.length < 100000 → f x acc S = .ok (acc ++ [g x]) S) :
    loopI it f turns 0 [] S = .ok (xs.map g) S := by
  obtain ⟨b, S', e, hb, hs⟩ := loopI_inv (it := it) (m := turns) (N := xs.length) (f := f) (I := fun i b S' => b = (xs.take i).map g ∧ S' = S) hl (fun i b S1 hi ⟨hb, hS⟩ => by
      subst hS hb
      refine ⟨xs[i], by rw [hit, List.getElem?_eq_getElem hi], _, _, h xs[i] _ (List.getElem_mem hi) (by rw [List.length_map, List.length_take]; omega), ?_, rfl⟩
      rw [List.take_succ, List.getElem?_eq_getElem hi, List.map_append]; rfl)
    (fun b S1 ⟨_, hS⟩ => by subst hS; rw [hit, List.getElem?_eq_none (Nat.le_refl _)]) (b := []) (S := S) ⟨rfl, rfl⟩
  rw [e, hs, hb, List.take_length]
theorem lc_filter {it : Itr} {f : AV → List AV → Hs → Rs (List AV)} {xs : List AV} {p : AV → Bool} {g : AV → AV} (hit : ∀ i, it.at i S = some xs[i]?) (hl : xs.length < 100000) (h : ∀ (x : AV) (acc : List AV), x ∈ xs → acc.length < 100000 → f x acc S = .ok (if p x then acc ++ [g x] else acc) S) :
    loopI it f turns 0 [] S = .ok ((xs.filter p).map g) S := by
  obtain ⟨b, S', e, ⟨hb, hs⟩⟩ := loopI_inv (it := it) (m := turns) (N := xs.length) (f := f) (I := fun i b S' => b = ((xs.take i).filter p).map g ∧ S' = S) hl (fun i b S1 hi ⟨hb, hS⟩ => by
      subst hS hb
      refine ⟨xs[i], by rw [hit, List.getElem?_eq_getElem hi], _, _, h xs[i] _ (List.getElem_mem hi) ?_, ?_, rfl⟩
      · have q := List.length_filter_le p (xs.take i)
        rw [List.length_take] at q
        rw [List.length_map]; omega
      · rw [List.take_succ, List.getElem?_eq_getElem hi, List.filter_append, List.map_append]
        by_cases c : p xs[i] = true
        · rw [if_pos c]; simp [c]
        · rw [if_neg c]; simp [c])
    (fun b S1 ⟨_, hS⟩ => by subst hS; rw [hit, List.getElem?_eq_none (Nat.le_refl _)]) (b := []) (S := S) ⟨rfl, rfl⟩
  rw [e, hs, hb, List.take_length]
end
end Ab

namespace Ab
open PySem L2
section
variable {P : Pe} {n i k m : Nat} {a b c e : E} {es : List E} {ρ ρ1 : Ev} {S : Hs} {α β : Type}
def W (r : Rs α) (Q : α → Hs → Prop) : Prop := ∃ v S, r = .ok v S ∧ Q v S
def WS (r : Re) (Q : Fl → Hs → Prop) : Prop := ∃ f S, r = .fl f S ∧ Q f S
theorem W_cg {r r' : Rs α} {Q : α → Hs → Prop} (h : r = r') : W r Q = W r' Q := by rw [h]
theorem WS_cg {r r' : Re} {Q : Fl → Hs → Prop} (h : r = r') : WS r Q = WS r' Q := by rw [h]
theorem W_ok (v : α) (Q : α → Hs → Prop) : W (.ok v S) Q = Q v S := propext ⟨fun ⟨_, _, e, h⟩ => by cases e; exact h, fun h => ⟨v, S, rfl, h⟩⟩
theorem W_bad (Q : α → Hs → Prop) : W .bad Q = False := propext ⟨fun ⟨_, _, e, _⟩ => (nomatch e), fun h => h.elim⟩
theorem WS_fl (f : Fl) (Q : Fl → Hs → Prop) : WS (.fl f S) Q = Q f S := propext ⟨fun ⟨_, _, e, h⟩ => by cases e; exact h, fun h => ⟨f, S, rfl, h⟩⟩
theorem W_bind (r : Rs α) (f : α → Hs → Rs β) (Q : β → Hs → Prop) : W (r.bind f) Q = W r fun v S => W (f v S) Q := propext (by
  cases r with
  | ok v S => rw [W_ok]; exact Iff.rfl
  | exc x S => exact ⟨fun ⟨_, _, e, _⟩ => (nomatch e), fun ⟨_, _, e, _⟩ => (nomatch e)⟩
  | bad => exact ⟨fun ⟨_, _, e, _⟩ => (nomatch e), fun ⟨_, _, e, _⟩ => (nomatch e)⟩)
theorem WS_st (r : Rs α) (f : α → Hs → Re) (Q : Fl → Hs → Prop) : WS (r.st ρ f) Q = W r fun v S => WS (f v S) Q := propext (by
  cases r with
  | ok v S => rw [W_ok]; exact Iff.rfl
  | exc x S => exact ⟨fun ⟨_, _, e, _⟩ => (nomatch e), fun ⟨_, _, e, _⟩ => (nomatch e)⟩
  | bad => exact ⟨fun ⟨_, _, e, _⟩ => (nomatch e), fun ⟨_, _, e, _⟩ => (nomatch e)⟩)
/-- what follows a statement -/
def sq (Q : Fl → Hs → Prop) (f : Ev → Hs → Prop) : Fl → Hs → Prop
  | .nx ρ, S => f ρ S
  | r, S => Q r S
theorem sq_nx (Q : Fl → Hs → Prop) (f : Ev → Hs → Prop) : sq Q f (.nx ρ) S = f ρ S := id rfl
theorem sq_rt (Q : Fl → Hs → Prop) (f : Ev → Hs → Prop) (v : AV) : sq Q f (.rt v) S = Q (.rt v) S := id rfl
theorem sq_bk (Q : Fl → Hs → Prop) (f : Ev → Hs → Prop) : sq Q f (.bk ρ) S = Q (.bk ρ) S := id rfl
theorem sq_ct (Q : Fl → Hs → Prop) (f : Ev → Hs → Prop) : sq Q f (.ct ρ) S = Q (.ct ρ) S := id rfl
theorem WS_seq (r : Re) (f : Ev → Hs → Re) (Q : Fl → Hs → Prop) : WS (r.seq f) Q = WS r (sq Q fun ρ S => WS (f ρ S) Q) := propext (by
  cases r with
  | fl g S =>
    rw [WS_fl]
    cases g with
    | nx ρ => exact Iff.rfl
    | rt v => show WS (.fl (.rt v) S) Q ↔ _; rw [WS_fl]; exact Iff.rfl
    | bk v => show WS (.fl (.bk v) S) Q ↔ _; rw [WS_fl]; exact Iff.rfl
    | ct v => show WS (.fl (.ct v) S) Q ↔ _; rw [WS_fl]; exact Iff.rfl
  | exc x ρ S => exact ⟨fun ⟨_, _, e, _⟩ => (nomatch e), fun ⟨_, _, e, _⟩ => (nomatch e)⟩
  | bad => exact ⟨fun ⟨_, _, e, _⟩ => (nomatch e), fun ⟨_, _, e, _⟩ => (nomatch e)⟩)
/-- a def's end -/
def en (Q : AV → Hs → Prop) : Fl → Hs → Prop
  | .nx _, S => Q .non S
  | .rt v, S => Q v S
  | _, _ => False
theorem en_nx (Q : AV → Hs → Prop) : en Q (.nx ρ) S = Q .non S := id rfl
theorem en_rt (Q : AV → Hs → Prop) (v : AV) : en Q (.rt v) S = Q v S := id rfl
theorem W_end (r : Re) (Q : AV → Hs → Prop) : W (endF r) Q = WS r (en Q) := propext (by
  cases r with
  | fl g S =>
    rw [WS_fl]
    cases g with
    | nx ρ => show W (.ok .non S) Q ↔ _; rw [W_ok]; exact Iff.rfl
    | rt v => show W (.ok v S) Q ↔ _; rw [W_ok]; exact Iff.rfl
    | bk v => show W .bad Q ↔ _; rw [W_bad]; exact Iff.rfl
    | ct v => show W .bad Q ↔ _; rw [W_bad]; exact Iff.rfl
  | exc x ρ S => exact ⟨fun ⟨_, _, e, _⟩ => (nomatch e), fun ⟨_, _, e, _⟩ => (nomatch e)⟩
  | bad => exact ⟨fun ⟨_, _, e, _⟩ => (nomatch e), fun ⟨_, _, e, _⟩ => (nomatch e)⟩)
/-- a choice -/
theorem W_cnd (c : Bool) (x y : Rs α) (Q : α → Hs → Prop) : W (cnd c x y) Q = ((c = true → W x Q) ∧ (c = false → W y Q)) := propext (by
  cases c with
  | true => exact ⟨fun h => ⟨fun _ => h, fun e => (nomatch e)⟩, fun h => h.1 rfl⟩
  | false => exact ⟨fun h => ⟨fun e => (nomatch e), fun _ => h⟩, fun h => h.2 rfl⟩)
theorem WS_cnd (c : Bool) (x y : Re) (Q : Fl → Hs → Prop) : WS (cnd c x y) Q = ((c = true → WS x Q) ∧ (c = false → WS y Q)) := propext (by
  cases c with
  | true => exact ⟨fun h => ⟨fun _ => h, fun e => (nomatch e)⟩, fun h => h.1 rfl⟩
  | false => exact ⟨fun h => ⟨fun e => (nomatch e), fun _ => h⟩, fun h => h.2 rfl⟩)
theorem W.mono {r : Rs α} {Q Q' : α → Hs → Prop} (h : W r Q) (k : ∀ v S, Q v S → Q' v S) : W r Q' := by
  obtain ⟨v, S, e, q⟩ := h
  exact ⟨v, S, e, k v S q⟩
theorem W.nox {r : Rs α} {Q : α → Hs → Prop} (h : W r Q) : W r.nox Q := by
  obtain ⟨v, S, e, q⟩ := h
  rw [e]
  exact ⟨v, S, rfl, q⟩
theorem WS.mono {r : Re} {Q Q' : Fl → Hs → Prop} (h : WS r Q) (k : ∀ v S, Q v S → Q' v S) : WS r Q' := by
  obtain ⟨v, S, e, q⟩ := h
  exact ⟨v, S, e, k v S q⟩
theorem WS_mid {r : Re} {Q : Fl → Hs → Prop} {f : Ev → Hs → Prop} (M : Ev → Hs → Prop) (h : WS r (sq Q M)) (k : ∀ ρ S, M ρ S → f ρ S) : WS r (sq Q f) := h.mono fun v S q => by
  cases v with
  | nx ρ => exact k ρ S q
  | rt _ => exact q
  | bk _ => exact q
  | ct _ => exact q
theorem WS_if {c : Bool} {x y : Re} {Q : Fl → Hs → Prop} (h1 : c = true → WS x Q) (h2 : c = false → WS y Q) : WS (cnd c x y) Q := by rw [WS_cnd]; exact ⟨h1, h2⟩
theorem W_if {c : Bool} {x y : Rs α} {Q : α → Hs → Prop} (h1 : c = true → W x Q) (h2 : c = false → W y Q) : W (cnd c x y) Q := by rw [W_cnd]; exact ⟨h1, h2⟩
theorem W_and {c : Bool} {x : Rs AV} {Q : AV → Hs → Prop} (M : Bool → Hs → Prop) (h1 : c = true → W x fun v S => ∃ b, v = .bl b ∧ M b S) (h2 : c = false → M false S) (k : ∀ b S, M b S → Q (.bl b) S) : W (cnd c x (.ok (.bl false) S)) Q := W_if (fun e => (h1 e).mono fun v S ⟨b, ev, m⟩ => ev ▸ k b S m) fun e => by rw [W_ok]; exact k _ _ (h2 e)
theorem W_ofO (o : Option AV) (Q : AV → Hs → Prop) : W (ofO o S) Q = ∃ v, o = some v ∧ Q v S := propext (by
  cases o with
  | none => show W .bad Q ↔ _; rw [W_bad]; exact ⟨fun h => h.elim, fun ⟨_, e, _⟩ => (nomatch e)⟩
  | some v => show W (.ok v S) Q ↔ _; rw [W_ok]; exact ⟨fun h => ⟨v, rfl, h⟩, fun ⟨_, e, h⟩ => by cases e; exact h⟩)
theorem W_call {G : Gx} {fb : List Fb} {d k : Nat} {f : Fb} {vs : List AV} {Q : AV → Hs → Prop} (h : fb[k]? = some f) (hl : vs.length = f.np) (hn : f.np ≤ f.n) (hg : G.grd.contains k = false) (q : WS (exs (fun s ρ S => ex ⟨G, callN G fb d⟩ 400 s ρ S) f.body (envO vs f.n) S) (en Q)) :
    W (callN G fb (d + 1) k vs S) Q := by rw [call_eq h hl hn hg, W_end]; exact q
/-- behind a turn -/
def tn (Q : Fl → Hs → Prop) (I : Ev → Hs → Prop) : Fl → Hs → Prop
  | .nx ρ, S => I ρ S
  | .ct ρ, S => I ρ S
  | .bk ρ, S => Q (.nx ρ) S
  | .rt v, S => Q (.rt v) S
theorem tn_nx (Q : Fl → Hs → Prop) (I : Ev → Hs → Prop) : tn Q I (.nx ρ) S = I ρ S := id rfl
theorem tn_ct (Q : Fl → Hs → Prop) (I : Ev → Hs → Prop) : tn Q I (.ct ρ) S = I ρ S := id rfl
theorem tn_bk (Q : Fl → Hs → Prop) (I : Ev → Hs → Prop) : tn Q I (.bk ρ) S = Q (.nx ρ) S := id rfl
theorem tn_rt (Q : Fl → Hs → Prop) (I : Ev → Hs → Prop) (v : AV) : tn Q I (.rt v) S = Q (.rt v) S := id rfl
theorem wfor_go {it : Itr} {f : AV → Ev → Hs → Re} {N : Nat} {Q : Fl → Hs → Prop} (I : Nat → Ev → Hs → Prop)
    (step : ∀ i ρ S, i < N → I i ρ S → ∃ v, it.at i S = some (some v) ∧ WS (f v ρ S) (tn Q (I (i + 1))))
    (stop : ∀ ρ S, I N ρ S → it.at N S = some none) (fin : ∀ ρ S, I N ρ S → Q (.nx ρ) S) : ∀ (m i : Nat) (ρ : Ev) (S : Hs), i ≤ N → N - i < m → I i ρ S → WS (forI it f m i ρ S) Q
  | 0, i, ρ, S, hi, hm, h => absurd hm (Nat.not_lt_zero _)
  | m + 1, i, ρ, S, hi, hm, h => by
    have un : forI it f (m + 1) i ρ S = (match it.at i S with
        | none => .bad
        | some none => .fl (.nx ρ) S
        | some (some v) => turnR (f v ρ S) fun ρ1 S1 => forI it f m (i + 1) ρ1 S1) := id rfl
    by_cases c : i < N
    · obtain ⟨v, e1, fl, S', e2, h2⟩ := step i ρ S c h
      rw [e1] at un
      rw [un]
      show WS (turnR (f v ρ S) _) Q
      rw [e2]
      cases fl with
      | nx ρ' => exact wfor_go I step stop fin m (i + 1) ρ' S' c (by omega) h2
      | ct ρ' => exact wfor_go I step stop fin m (i + 1) ρ' S' c (by omega) h2
      | bk ρ' => exact ⟨_, _, rfl, h2⟩
      | rt v => exact ⟨_, _, rfl, h2⟩
    · have e : i = N := by omega
      subst e
      rw [stop ρ S h] at un
      rw [un]
      exact ⟨_, _, rfl, fin ρ S h⟩
theorem wfor {it : Itr} {f : AV → Ev → Hs → Re} {N : Nat} {Q : Fl → Hs → Prop} (I : Nat → Ev → Hs → Prop) (h0 : I 0 ρ S) (hN : N < turns)
    (step : ∀ i ρ S, i < N → I i ρ S → ∃ v, it.at i S = some (some v) ∧ WS (f v ρ S) (tn Q (I (i + 1))))
    (stop : ∀ ρ S, I N ρ S → it.at N S = some none) (fin : ∀ ρ S, I N ρ S → Q (.nx ρ) S) : WS (forI it f turns 0 ρ S) Q :=
  wfor_go I step stop fin turns 0 ρ S (Nat.zero_le _) (by omega) h0
theorem wloop {it : Itr} {f : AV → β → Hs → Rs β} {N : Nat} {b0 : β} {Q : β → Hs → Prop} (I : Nat → β → Hs → Prop) (h0 : I 0 b0 S) (hN : N < turns)
    (step : ∀ i b S, i < N → I i b S → ∃ v, it.at i S = some (some v) ∧ W (f v b S) (I (i + 1)))
    (stop : ∀ b S, I N b S → it.at N S = some none) (fin : ∀ b S, I N b S → Q b S) : W (loopI it f turns 0 b0 S) Q := by
  obtain ⟨b, S', e, h⟩ := loopI_inv (it := it) (f := f) (m := turns) I hN (fun i b S hi h => by
    obtain ⟨v, e, b', S', e2, h2⟩ := step i b S hi h
    exact ⟨v, e, b', S', e2, h2⟩) stop h0
  exact ⟨b, S', e, fin b S' h⟩
/-- a turn of a comprehension -/
theorem wlcF {elt : E} {tg : Tg} {own : List Nat} {v : AV} {acc : List AV} {Q : List AV → Hs → Prop} (h1 : asgC own tg v (wipeA ρ own) = some ρ1) (h3 : acc.length < 100000) (h : W (ev P n elt ρ1 S) fun x S' => Q (acc ++ [x]) S') : W (lcF P n elt tg [] own ρ v acc S) Q := by
  obtain ⟨x, S', e, q⟩ := h
  exact ⟨_, _, lcF_one h1 e h3, q⟩
theorem wlcF1 {elt t : E} {tg : Tg} {own : List Nat} {v : AV} {acc : List AV} {Q : List AV → Hs → Prop} (h1 : asgC own tg v (wipeA ρ own) = some ρ1) (h3 : acc.length < 100000)
    (h : W (ev P n t ρ1 S) fun x S' => ∃ b, x = .bl b ∧ (b = true → W (ev P n elt ρ1 S') fun x S' => Q (acc ++ [x]) S') ∧ (b = false → Q acc S')) : W (lcF P n elt tg [t] own ρ v acc S) Q := by
  obtain ⟨x, S1, e, b, rfl, q1, q2⟩ := h
  cases b with
  | false =>
    refine ⟨acc, S1, ?_, q2 rfl⟩
    unfold lcF
    rw [h1]
    show ((((ev P n t ρ1 S).bind fun v S1 => (tstA v S1).bind fun b S2 => if b = true then Rs.ok true S2 else .ok false S2).bind fun b S3 => if b = true then (ev P n elt ρ1 S3).bind fun x S4 => if acc.length < sizeLine then Rs.ok (acc ++ [x]) S4 else .bad else .ok acc S3).nox) = _
    rw [e]; rfl
  | true =>
    obtain ⟨y, S2, e2, q⟩ := q1 rfl
    refine ⟨acc ++ [y], S2, ?_, q⟩
    unfold lcF
    rw [h1]
    show ((((ev P n t ρ1 S).bind fun v S1 => (tstA v S1).bind fun b S2 => if b = true then Rs.ok true S2 else .ok false S2).bind fun b S3 => if b = true then (ev P n elt ρ1 S3).bind fun x S4 => if acc.length < sizeLine then Rs.ok (acc ++ [x]) S4 else .bad else .ok acc S3).nox) = _
    rw [e]
    show ((ev P n elt ρ1 S1).bind fun x S4 => if acc.length < sizeLine then Rs.ok (acc ++ [x]) S4 else .bad).nox = _
    rw [e2]
    show (if acc.length < sizeLine then Rs.ok (acc ++ [y]) S2 else .bad).nox = _
    rw [if_pos (by rw [sizeLine_eq]; omega)]; rfl
/-- [elt for x in xs]: item by item -/
theorem wlc {elt : E} {tg : Tg} {own : List Nat} {it : Itr} {N : Nat} {Q : List AV → Hs → Prop} (I : Nat → List AV → Hs → Prop) (h0 : I 0 [] S) (hN : N < 100000) (hlen : ∀ i acc S, I i acc S → acc.length ≤ i)
    (step : ∀ i acc S, i < N → I i acc S → ∃ v, it.at i S = some (some v) ∧ ∃ ρ1, asgC own tg v (wipeA ρ own) = some ρ1 ∧ W (ev P n elt ρ1 S) fun x S' => I (i + 1) (acc ++ [x]) S')
    (stop : ∀ acc S, I N acc S → it.at N S = some none) (fin : ∀ acc S, I N acc S → Q acc S) : W (loopI it (lcF P n elt tg [] own ρ) turns 0 [] S) Q :=
  wloop I h0 hN (fun i acc S hi h => by
    obtain ⟨v, e, ρ1, h1, h2⟩ := step i acc S hi h
    exact ⟨v, e, wlcF h1 (by have := hlen i acc S h; omega) h2⟩) stop fin
theorem atI0 {α : Type} (x : α) (l : List α) : atI (x :: l) 0 = some x := by
  simp [atI, ixN]
theorem atI1 {α : Type} (x y : α) (l : List α) : atI (x :: y :: l) 1 = some y := by
  have := atI_nat (xs := x :: y :: l) (j := 1) (v := y) rfl
  simpa using this
theorem atI2 {α : Type} (x y z : α) (l : List α) : atI (x :: y :: z :: l) 2 = some z := by
  have := atI_nat (xs := x :: y :: z :: l) (j := 2) (v := z) rfl
  simpa using this
theorem atI3 {α : Type} (x y z w : α) (l : List α) : atI (x :: y :: z :: w :: l) 3 = some w := by
  have := atI_nat (xs := x :: y :: z :: w :: l) (j := 3) (v := w) rfl
  simpa using this
theorem ixN_lt {n j : Nat} (h : j < n) : ixN n (j : Int) = some j := by
  unfold ixN
  rw [if_pos (by omega), if_pos (by omega)]; rfl
theorem setO_0 {r : Nat} (x : AV) (l : List AV) (v : AV) : setO r (some (.lst (x :: l))) 0 v S = .ok () (S.set r (.lst (v :: l))) := setO_l (xs := x :: l) (i := 0) (n := 0) v (ixN_lt (j := 0) (by simp))
theorem setO_1 {r : Nat} (x y : AV) (l : List AV) (v : AV) : setO r (some (.lst (x :: y :: l))) 1 v S = .ok () (S.set r (.lst (x :: v :: l))) := setO_l (xs := x :: y :: l) (i := 1) (n := 1) v (ixN_lt (j := 1) (by simp))
theorem setO_2 {r : Nat} (x y z : AV) (l : List AV) (v : AV) : setO r (some (.lst (x :: y :: z :: l))) 2 v S = .ok () (S.set r (.lst (x :: y :: v :: l))) := setO_l (xs := x :: y :: z :: l) (i := 2) (n := 2) v (ixN_lt (j := 2) (by simp))
theorem get_set_s {S : Hs} {i : Nat} {o : AO} (c : i < S.n) : (S.set i o).get i = some o := Hs.get_set_self c
theorem get_set_n {S : Hs} {i j : Nat} {o : AO} (c : j ≠ i) : (S.set i o).get j = S.get j := Hs.get_set_ne c
theorem get_push_lt {S : Hs} {i : Nat} {o : AO} (c : i < S.n) : (S.push o).get i = S.get i := Hs.get_push_ne (Nat.ne_of_lt c)
theorem lt_push {S : Hs} {i : Nat} {o : AO} (c : i < S.n) : i < (S.push o).n := Nat.lt_succ_of_lt c
theorem lt_set {S : Hs} {i r : Nat} {o : AO} (c : i < S.n) : i < (S.set r o).n := c
theorem ne_push {S : Hs} {i : Nat} (c : i < S.n) : (S.n = i) = False := eq_false (Nat.ne_of_gt c)
theorem ne_push' {S : Hs} {i : Nat} (c : i < S.n) : (i = S.n) = False := eq_false (Nat.ne_of_lt c)
theorem okLen_s {n : Nat} (h : n ≤ 100000) : okLen n = true := decide_eq_true (by rw [sizeLine_eq]; omega)
theorem lstA_ok {vs : List AV} (h : vs.length ≤ 100000) : lstA vs S = .ok (.ref S.n) (S.push (.lst vs)) := by
  unfold lstA
  rw [okLen_s h]; rfl
theorem tupA_ok {vs : List AV} (h : vs.length ≤ 100000) : tupA vs S = .ok (.tup vs) S := by
  unfold tupA
  rw [okLen_s h]; rfl
theorem lcE_ok (acc : List AV) : lcE acc S = .ok (.ref S.n) (S.push (.lst acc)) := id rfl
theorem toDs_ints {f : AV → Option PyData} (hf : ∀ i, f (.int i) = some (.int i)) : ∀ l : List Int, toDs f (l.map .int) = some (l.map .int)
  | [] => rfl
  | i :: l => by
    show (match f (.int i) with
      | some d => (match toDs f (l.map .int) with
        | some ds => some (d :: ds)
        | none => none)
      | none => none) = _
    rw [hf, toDs_ints hf l]; rfl
theorem toD_ref {n r : Nat} {xs : List AV} {ds : List PyData} (h : S.get r = some (.lst xs)) (e : toDs (toD n S) xs = some ds) : toD (n + 1) S (.ref r) = some (.list ds) := by
  show (match S.get r with
      | some o => (match o.seq with
        | some xs => (match toDs (toD n S) xs with
          | some ds => some (PyData.list ds)
          | none => none)
        | none => none)
      | none => none) = _
  rw [h]
  show (match toDs (toD n S) xs with
          | some ds => some (PyData.list ds)
          | none => none) = _
  rw [e]
theorem lay_ints : ∀ l : List Int, PyData.canLayAll0 (l.map .int) = true ∧ PyData.depthAll (l.map .int) = 0
  | [] => ⟨rfl, rfl⟩
  | i :: l => by
    obtain ⟨h1, h2⟩ := lay_ints l
    refine ⟨?_, ?_⟩
    · show (true && PyData.canLayAll0 (l.map .int)) = true
      rw [h1]; rfl
    · show max 0 (PyData.depthAll (l.map .int)) = 0
      rw [h2]; rfl
theorem eqA_intsNil {c e : Nat} {l : List Int} (h : S.get c = some (.lst (l.map .int))) (h2 : S.get e = some (.lst [])) : eqA S (.ref c) (.ref e) = some l.isEmpty := by
  show eqD S (.ref c) (.ref e) = _
  unfold eqD
  rw [toD_ref (n := 65) h (toDs_ints (fun _ => rfl) l), toD_ref (n := 65) (ds := []) h2 rfl]
  have s1 : SeqAt.shaped (.list (l.map .int)) = true := by
    obtain ⟨h1, h2⟩ := lay_ints l
    unfold SeqAt.shaped PyData.canLay0 PyData.depth
    rw [h1, h2]; rfl
  have s2 : SeqAt.shaped (.list []) = true := id rfl
  show (if (SeqAt.shaped (.list (l.map .int)) && SeqAt.shaped (.list [])) = true then some (PyData.eqv (.list (l.map .int)) (.list [])) else none) = _
  rw [s1, s2]
  cases l <;> rfl
theorem mulR {i j : Int} (h1 : -18446744073709551616 < j) (h2 : j < 18446744073709551616) : binA .Mult (.int i) (.int j) S = .ok (.int (i * j)) S := Ab.mul_int i j (decide_eq_true (.inr ⟨h1, h2⟩))
theorem mulL {i j : Int} (h1 : -18446744073709551616 < i) (h2 : i < 18446744073709551616) : binA .Mult (.int i) (.int j) S = .ok (.int (i * j)) S := Ab.mul_int i j (decide_eq_true (.inl ⟨h1, h2⟩))
theorem rngV_n {n : Nat} (h : n < 2 ^ 62) : rngV (.int (n : Int)) S = .ok (.rng 0 n) S := by
  rw [rngV_i _ (by omega)]; rfl
theorem at_rng0 {S : Hs} {n i : Nat} (h : i < n) : (Itr.rng 0 n).at i S = some (some (.int i)) := by
  rw [at_rng h]; simp
theorem pop_ok {r k : Nat} {ys : List AV} (h : S.get r = some (.lst ys)) (hk : k < ys.length) (hl : ys.length < 2 ^ 60) : bmA .lst .pop (.ref r) [.int (k : Int)] S = .ok ys[k] (S.set r (.lst (ys.eraseIdx k))) := by
  show (match S.get r with
    | some (.lst ys) => if -(2 ^ 63) ≤ (k : Int) ∧ (k : Int) < 2 ^ 63 then (match seqIndex? k ys.length with
      | some k => (match ys[k]? with
        | some y => Rs.ok y (S.set r (.lst (ys.eraseIdx k)))
        | none => .bad)
      | none => .bad) else .bad
    | _ => .bad) = _
  rw [h]
  show (if -(2 ^ 63) ≤ (k : Int) ∧ (k : Int) < 2 ^ 63 then _ else _) = _
  rw [if_pos (by omega)]
  have e : seqIndex? (k : Int) ys.length = some k := by
    unfold seqIndex?
    have e1 : ¬ ((k : Int) < 0) := by omega
    simp [e1, hk]
  rw [e]
  show (match ys[k]? with
        | some y => Rs.ok y (S.set r (.lst (ys.eraseIdx k)))
        | none => .bad) = _
  rw [List.getElem?_eq_getElem hk]
theorem append_ok {r : Nat} {ys : List AV} {x : AV} (h : S.get r = some (.lst ys)) (hl : ys.length < 100000) : bmA .lst .append (.ref r) [x] S = .ok .non (S.set r (.lst (ys ++ [x]))) := by
  show (match S.get r with
    | some (.lst ys) => if ys.length < sizeLine then Rs.ok AV.non (S.set r (.lst (ys ++ [x]))) else .bad
    | _ => .bad) = _
  rw [h]
  show (if ys.length < sizeLine then _ else _) = _
  rw [if_pos (by rw [sizeLine_eq]; omega)]
def seqO (o : Option AO) : Option (List AV) := match o with
  | some o => o.seq
  | none => none
def listO (o : Option (List AV)) (S : Hs) : Rs AV := match o with
  | some ys => alloc S (.lst ys)
  | none => .bad
def tupO (o : Option (List AV)) (S : Hs) : Rs AV := match o with
  | some ys => .ok (.tup ys) S
  | none => .bad
theorem list_r (r : Nat) : bltA .list [.ref r] S = listO (seqO (S.get r)) S := id rfl
theorem list_t (xs : List AV) : bltA .list [.tup xs] S = listO (some xs) S := id rfl
theorem tuple_r (r : Nat) : bltA .tuple [.ref r] S = tupO (seqO (S.get r)) S := id rfl
theorem tuple_t (xs : List AV) : bltA .tuple [.tup xs] S = .ok (.tup xs) S := id rfl
theorem seqO_l (xs : List AV) : seqO (some (.lst xs)) = some xs := id rfl
theorem seqO_k (xs : List AV) : seqO (some (.lck (.lst xs))) = some xs := id rfl
theorem listO_s (xs : List AV) : listO (some xs) S = .ok (.ref S.n) (S.push (.lst xs)) := id rfl
theorem tupO_s (xs : List AV) : tupO (some xs) S = .ok (.tup xs) S := id rfl
theorem setN {M : Nat → Prop} {S S1 : Hs} {p : Nat} {o : AO} (h : Ab.Fr M S S1) (hp : S.n ≤ p) : Ab.Fr M S (S1.set p o) := ⟨h.n, fun i hi m => (Hs.get_set_ne (by omega)).trans (h.get i hi m)⟩
theorem pushN {M : Nat → Prop} {S S1 : Hs} {o : AO} (h : Ab.Fr M S S1) : Ab.Fr M S (S1.push o) := h.trans Ab.Fr.push
theorem erase_perm {α : Type} : ∀ (l : List α) (j : Nat) (h : j < l.length), (l[j] :: l.eraseIdx j).Perm l
  | x :: l, 0, _ => .refl _
  | x :: l, j + 1, h => by
    have ih := erase_perm l j (by simpa using h)
    show (l[j]'_ :: x :: l.eraseIdx j).Perm (x :: l)
    exact (List.Perm.swap _ _ _).trans (List.Perm.cons _ ih)
theorem iS_cst (v : AV) : isStar (.cst v) = none := id rfl
theorem iS_var (i : Nat) : isStar (.var i) = none := id rfl
theorem iS_gc (k : Nat) : isStar (.gc k) = none := id rfl
theorem iS_gf (k : Nat) : isStar (.gf k) = none := id rfl
theorem iS_gk (k : Nat) : isStar (.gk k) = none := id rfl
theorem iS_bin (op : Operator) (a b : E) : isStar (.bin op a b) = none := id rfl
theorem iS_neg (a : E) : isStar (.neg a) = none := id rfl
theorem iS_not (a : E) : isStar (.not a) = none := id rfl
theorem iS_and (a b : E) : isStar (.and a b) = none := id rfl
theorem iS_or (a b : E) : isStar (.or a b) = none := id rfl
theorem iS_ite (c a b : E) : isStar (.ite c a b) = none := id rfl
theorem iS_cmp (op : CmpOp) (a b : E) : isStar (.cmp op a b) = none := id rfl
theorem iS_cmp2 (op op' : CmpOp) (a b c : E) : isStar (.cmp2 op op' a b c) = none := id rfl
theorem iS_tup (es : List E) : isStar (.tup es) = none := id rfl
theorem iS_lst (es : List E) : isStar (.lst es) = none := id rfl
theorem iS_dct (ks vs : List E) : isStar (.dct ks vs) = none := id rfl
theorem iS_idx (a i : E) : isStar (.idx a i) = none := id rfl
theorem iS_slc (a : E) (lo hi : Option E) : isStar (.slc a lo hi) = none := id rfl
theorem iS_attr (a : E) (f : Nat) : isStar (.attr a f) = none := id rfl
theorem iS_call (k : Nat) (es : List E) : isStar (.call k es) = none := id rfl
theorem iS_make (k : Nat) (es : List E) (ks : List E) : isStar (.make k es ks) = none := id rfl
theorem iS_blt (f : Bf) (es : List E) : isStar (.blt f es) = none := id rfl
theorem iS_isi (a : E) (many : Bool) (ts : List Ty) : isStar (.isi a many ts) = none := id rfl
theorem iS_meth (o : E) (f : Nat) (b : Option Bm) (es : List E) : isStar (.meth o f b es) = none := id rfl
theorem iS_lc (elt : E) (tg : Tg) (src : Src) (ifs : List E) (own : List Nat) : isStar (.lc elt tg src ifs own) = none := id rfl
theorem set_n' {r : Nat} {o : AO} : (S.set r o).n = S.n := id rfl
theorem push_n' {o : AO} : (S.push o).n = S.n + 1 := id rfl
theorem get_push_self (o : AO) : (S.push o).get S.n = some o := Hs.get_push_self S o
end
end Ab

namespace Ab
open PySem L2
section
variable {P : Pe} {n i k m : Nat} {ρ ρ1 : Ev} {S : Hs}
theorem W_eq {α : Type} {r : Rs α} {v : α} (h : W r fun x S' => x = v ∧ S' = S) : r = .ok v S := by
  obtain ⟨x, S', e, rfl, rfl⟩ := h
  exact e
theorem W_of {α : Type} {r : Rs α} {v : α} {S' : Hs} {Q : α → Hs → Prop} (e : r = .ok v S') (h : Q v S') : W r Q := ⟨v, S', e, h⟩
theorem fm1 {α β : Type} (f : α → β) : ∀ l : List α, l.flatMap (fun y => [f y]) = l.map f
  | [] => rfl
  | x :: l => by rw [List.flatMap_cons, fm1 f l]; rfl
def lc2I (P : Pe) (n : Nat) (elt : E) (tg1 : Tg) (ifs1 : List E) (own1 : List Nat) (ρ1 : Ev) (v1 : AV) (acc : List AV) (S : Hs) : Rs (List AV) := match asgC own1 tg1 v1 (wipeA ρ1 own1) with
  | some ρ2 => (evT (fun e S => ev P n e ρ2 S) ifs1 S).bind fun b S3 => if b then (ev P n elt ρ2 S3).bind fun x S4 => if acc.length < sizeLine then .ok (acc ++ [x]) S4 else .bad else .ok acc S3
  | none => .bad
def lc2F (P : Pe) (n : Nat) (elt : E) (tg : Tg) (ifs : List E) (tg1 : Tg) (src1 : Src) (ifs1 : List E) (own own1 : List Nat) (ρ : Ev) (v : AV) (acc : List AV) (S : Hs) : Rs (List AV) := match asgC own tg v (wipeA ρ own) with
  | some ρ1 => ((evT (fun e S => ev P n e ρ1 S) ifs S).bind fun b S3 => if b then (srcA (fun e S => ev P n e ρ1 S) src1 S3).bind fun it1 S4 => loopI it1 (lc2I P n elt tg1 ifs1 own1 ρ1) turns 0 acc S4 else .ok acc S3).nox
  | none => .bad
theorem ev_lc2 {elt : E} {tg : Tg} {src : Src} {ifs : List E} {tg1 : Tg} {src1 : Src} {ifs1 : List E} {own own1 : List Nat} : ev P (n + 1) (.lc2 elt tg src ifs tg1 src1 ifs1 own own1) ρ S = (srcA (fun e S => ev P n e ρ S) src S).bind fun it S1 => (loopI it (lc2F P n elt tg ifs tg1 src1 ifs1 own own1 ρ) turns 0 [] S1).bind lcE := id rfl
def dcF (P : Pe) (n : Nat) (ke ve : E) (tg : Tg) (ifs : List E) (own : List Nat) (ρ : Ev) (v : AV) (acc : List (Key × AV)) (S : Hs) : Rs (List (Key × AV)) := match asgC own tg v (wipeA ρ own) with
  | some ρ1 => ((evT (fun e S => ev P n e ρ1 S) ifs S).bind fun b S3 => if b then (ev P n ke ρ1 S3).bind fun y S4 => (ev P n ve ρ1 S4).bind fun z S5 => (match keyOf y with
      | some k => if acc.length < sizeLine then .ok (putKA acc k z) S5 else .bad
      | none => .bad) else .ok acc S3).nox
  | none => .bad
def dcE (acc : List (Key × AV)) (S : Hs) : Rs AV := alloc S (.dct acc)
theorem dcE_ok (acc : List (Key × AV)) : dcE acc S = .ok (.ref S.n) (S.push (.dct acc)) := id rfl
theorem ev_dc {ke ve : E} {tg : Tg} {src : Src} {ifs : List E} {own : List Nat} : ev P (n + 1) (.dc ke ve tg src ifs own) ρ S = (srcA (fun e S => ev P n e ρ S) src S).bind fun it S1 => (loopI it (dcF P n ke ve tg ifs own ρ) turns 0 [] S1).bind dcE := id rfl
theorem dcF_one {ke ve : E} {tg : Tg} {own : List Nat} {v y z : AV} {k : Key} {acc : List (Key × AV)} {S1 S2 : Hs} (h1 : asgC own tg v (wipeA ρ own) = some ρ1) (h2 : ev P n ke ρ1 S = .ok y S1) (h3 : ev P n ve ρ1 S1 = .ok z S2) (hk : keyOf y = some k) (hl : acc.length < 100000) : dcF P n ke ve tg [] own ρ v acc S = .ok (putKA acc k z) S2 := by
  unfold dcF
  rw [h1]
  show ((ev P n ke ρ1 S).bind fun y S4 => (ev P n ve ρ1 S4).bind fun z S5 => (match keyOf y with
      | some k => if acc.length < sizeLine then Rs.ok (putKA acc k z) S5 else .bad
      | none => .bad)).nox = _
  rw [h2]
  show ((ev P n ve ρ1 S1).bind fun z S5 => (match keyOf y with
      | some k => if acc.length < sizeLine then Rs.ok (putKA acc k z) S5 else .bad
      | none => .bad)).nox = _
  rw [h3]
  show (match keyOf y with
      | some k => if acc.length < sizeLine then Rs.ok (putKA acc k z) S2 else .bad
      | none => .bad).nox = _
  rw [hk]
  show (if acc.length < sizeLine then Rs.ok (putKA acc k z) S2 else .bad).nox = _
  rw [if_pos (by rw [sizeLine_eq]; omega)]; rfl
theorem setF_ok {G : Gx} {r c f : Nat} {fs : List (Nat × AV)} {v : AV} (h : S.get r = some (.ins c fs)) (hl : fs.length < 1000) (hf : isFld G c f = true) : setFA G (.ref r) f v S = .ok () (S.set r (.ins c (putF f v fs))) := by
  unfold setFA
  dsimp only
  rw [h]
  show (if (decide (fs.length < 1000) && isFld G c f) = true then _ else _) = _
  rw [decide_eq_true hl, hf]; rfl
/-- super().__init__ -/
def supA (P : Pe) (D k : Nat) (o : Option (Option AV)) (S : Hs) (args : Hs → Rs (List AV)) : Rs AV := match o with
  | some (some x) => (match insAt S x with
    | some (c, _) => (match P.G.cls[c]? with
      | some cl => if cl.sup.contains D then (args S).bind fun vs S1 => P.C k (x :: vs) S1 else .bad
      | none => .bad)
    | none => .bad)
  | _ => .bad
theorem ev_sup {D : Nat} {es : List E} : ev P (n + 1) (.sup D k es) ρ S = supA P D k ρ[0]? S (fun S => evL (fun e S => ev P n e ρ S) es S) := id rfl
theorem sup_ok {D r c : Nat} {fs : List (Nat × AV)} {cl : Cl} {args : Hs → Rs (List AV)} (h : S.get r = some (.ins c fs)) (hc : P.G.cls[c]? = some cl) (hs : cl.sup.contains D = true) : supA P D k (some (some (.ref r))) S args = (args S).bind fun vs S1 => P.C k (.ref r :: vs) S1 := by
  have e1 : insAt S (.ref r) = some (c, fs) := by
    show (match S.get r with | some (.ins k fs) => some (k, fs) | _ => none) = _
    rw [h]
  unfold supA
  show (match insAt S (.ref r) with
    | some (c, _) => (match P.G.cls[c]? with
      | some cl => if cl.sup.contains D then (args S).bind fun vs S1 => P.C k (.ref r :: vs) S1 else .bad
      | none => .bad)
    | none => .bad) = _
  rw [e1]
  show (match P.G.cls[c]? with
      | some cl => if cl.sup.contains D then (args S).bind fun vs S1 => P.C k (.ref r :: vs) S1 else .bad
      | none => .bad) = _
  rw [hc]
  show (if cl.sup.contains D then _ else _) = _
  rw [if_pos hs]
theorem mk_ok {c : Nat} {cl : Cl} {ini : Nat} {vs : List AV} {Q : AV → Hs → Prop} (hc : P.G.cls[c]? = some cl) (hi : cl.ini = some ini) (h : W (P.C ini (.ref S.n :: vs) (S.push (.ins c []))) fun v S' => v = .non ∧ Q (.ref S.n) S') : W (mkA P c vs S) Q := by
  obtain ⟨v, S', e, rfl, q⟩ := h
  unfold mkA
  rw [hc]
  show W (match cl.ini with
    | some i => (P.C i (.ref S.n :: vs) (S.push (.ins c []))).bind fun r S3 => if isNon r then .ok (.ref S.n) S3 else .bad
    | none => .bad) Q
  rw [hi]
  show W ((P.C ini (.ref S.n :: vs) (S.push (.ins c []))).bind fun r S3 => if isNon r then .ok (.ref S.n) S3 else .bad) Q
  rw [e]
  exact ⟨_, _, rfl, q⟩
/-- items that leave the heap as it is, onto what is there -/
theorem map_on {it : Itr} {f : AV → List AV → Hs → Rs (List AV)} {xs : List AV} {h : AV → List AV} {a0 : List AV} {lim : Nat} (hit : ∀ i, it.at i S = some xs[i]?) (hl : xs.length < 100000) (hb : ∀ i, i ≤ xs.length → (a0 ++ (xs.take i).flatMap h).length ≤ lim)
    (hf : ∀ (x : AV) (acc : List AV), x ∈ xs → acc.length ≤ lim → (acc ++ h x).length ≤ lim → f x acc S = .ok (acc ++ h x) S) : loopI it f turns 0 a0 S = .ok (a0 ++ xs.flatMap h) S := by
  obtain ⟨b, S', e, hb', hs⟩ := loopI_inv (it := it) (m := turns) (N := xs.length) (f := f) (I := fun i b S' => b = a0 ++ (xs.take i).flatMap h ∧ S' = S) hl (fun i b S1 hi ⟨hb1, hS⟩ => by
      subst hS hb1
      have e1 : (xs.take (i + 1)).flatMap h = (xs.take i).flatMap h ++ h xs[i] := by
        rw [List.take_succ, List.getElem?_eq_getElem hi, List.flatMap_append]; simp
      have h2 := hb (i + 1) hi
      rw [e1, ← List.append_assoc] at h2
      refine ⟨xs[i], by rw [hit, List.getElem?_eq_getElem hi], _, _, hf xs[i] _ (List.getElem_mem hi) (hb i (by omega)) h2, ?_, rfl⟩
      rw [e1, List.append_assoc])
    (fun b S1 ⟨_, hS⟩ => by subst hS; rw [hit, List.getElem?_eq_none (Nat.le_refl _)]) (b := a0) (S := S) ⟨by simp, rfl⟩
  rw [e, hs, hb', List.take_length]
theorem lc2_map {elt : E} {tg tg1 : Tg} {src1 : Src} {own own1 : List Nat} {it : Itr} {xs ys : List AV} {g : AV → AV → AV} (hit : ∀ i, it.at i S = some xs[i]?) (hl : xs.length < 1000) (hl2 : ys.length < 90)
    (inner : ∀ x ∈ xs, ∃ ρ1 it1, asgC own tg x (wipeA ρ own) = some ρ1 ∧ srcA (fun e S => ev P n e ρ1 S) src1 S = .ok it1 S ∧ (∀ i, it1.at i S = some ys[i]?) ∧ ∀ y ∈ ys, ∃ ρ2, asgC own1 tg1 y (wipeA ρ1 own1) = some ρ2 ∧ ev P n elt ρ2 S = .ok (g x y) S) :
    loopI it (lc2F P n elt tg [] tg1 src1 [] own own1 ρ) turns 0 [] S = .ok (xs.flatMap fun x => ys.map (g x)) S := by
  have fl : ∀ l : List AV, (l.flatMap fun x => ys.map (g x)).length = l.length * ys.length := fun l => by
    induction l with
    | nil => simp
    | cons x l ih => rw [List.flatMap_cons, List.length_append, ih, List.length_map, List.length_cons, Nat.succ_mul]; omega
  have q := map_on (S := S) (it := it) (f := lc2F P n elt tg [] tg1 src1 [] own own1 ρ) (xs := xs) (h := fun x => ys.map (g x)) (a0 := []) (lim := 90000) hit (by omega) (fun i hi => by
      rw [List.nil_append, fl, List.length_take]
      calc min i xs.length * ys.length ≤ 1000 * 90 := Nat.mul_le_mul (by omega) (by omega)
        _ ≤ 90000 := by omega) (fun x acc hx h1 h2 => by
      obtain ⟨ρ1, it1, e1, e2, e3, e4⟩ := inner x hx
      unfold lc2F
      rw [e1]
      show ((srcA (fun e S => ev P n e ρ1 S) src1 S).bind fun it1 S4 => loopI it1 (lc2I P n elt tg1 [] own1 ρ1) turns 0 acc S4).nox = _
      rw [e2]
      show (loopI it1 (lc2I P n elt tg1 [] own1 ρ1) turns 0 acc S).nox = _
      have q1 := map_on (S := S) (it := it1) (f := lc2I P n elt tg1 [] own1 ρ1) (xs := ys) (h := fun y => [g x y]) (a0 := acc) (lim := 90000) e3 (by omega) (fun i hi => by
          rw [List.length_append] at h2 ⊢
          have : ((ys.take i).flatMap fun y => [g x y]).length = (ys.take i).length := by
            rw [fm1, List.length_map]
          rw [this, List.length_take]
          rw [List.length_map] at h2
          omega) (fun y acc hy h1 h2 => by
          obtain ⟨ρ2, e5, e6⟩ := e4 y hy
          unfold lc2I
          rw [e5]
          show ((ev P n elt ρ2 S).bind fun x S4 => if acc.length < sizeLine then Rs.ok (acc ++ [x]) S4 else .bad) = _
          rw [e6]
          show (if acc.length < sizeLine then Rs.ok (acc ++ [g x y]) S else .bad) = _
          rw [if_pos (by rw [sizeLine_eq]; omega)])
      rw [q1]
      show Rs.ok _ S = _
      congr 2
      exact (fm1 (g x) ys))
  rw [q, List.nil_append]
end
end Ab

namespace Ab
open PySem L2
section
variable {S S' : Hs} {n r : Nat}
theorem toDs_mono {f g : AV → Option PyData} (h : ∀ v d, f v = some d → g v = some d) : ∀ {xs : List AV} {ds : List PyData}, toDs f xs = some ds → toDs g xs = some ds
  | [], ds, e => e
  | x :: xs, ds, e => by
    unfold toDs at e ⊢
    cases h1 : f x with
    | none => rw [h1] at e; cases e
    | some d =>
      cases h2 : toDs f xs with
      | none => rw [h1, h2] at e; cases e
      | some ds' =>
        rw [h1, h2] at e
        rw [h x d h1, toDs_mono h h2]; exact e
theorem toDs_map {f g : AV → Option PyData} {k : AV → AV} (h : ∀ v d, f v = some d → g (k v) = some d) : ∀ {xs : List AV} {ds : List PyData}, toDs f xs = some ds → toDs g (xs.map k) = some ds
  | [], ds, e => e
  | x :: xs, ds, e => by
    rw [List.map_cons]
    unfold toDs at e ⊢
    cases h1 : f x with
    | none => rw [h1] at e; cases e
    | some d =>
      cases h2 : toDs f xs with
      | none => rw [h1, h2] at e; cases e
      | some ds' =>
        rw [h1, h2] at e
        rw [h x d h1, toDs_map h h2]; exact e
theorem shVs_map (n : Nat) : ∀ xs : List AV, shVs n xs = xs.map (shV n)
  | [] => rfl
  | x :: xs => by rw [List.map_cons, ← shVs_map n xs]; rfl
theorem toDs_get {f : AV → Option PyData} : ∀ {xs : List AV} {ds : List PyData} {i : Nat} {d : PyData}, toDs f xs = some ds → ds[i]? = some d → ∃ x, xs[i]? = some x ∧ f x = some d
  | [], ds, i, d, e, h => by cases e; simp at h
  | x :: xs, ds, i, d, e, h => by
    unfold toDs at e
    cases h1 : f x with
    | none => rw [h1] at e; cases e
    | some d0 =>
      cases h2 : toDs f xs with
      | none => rw [h1, h2] at e; cases e
      | some ds' =>
        rw [h1, h2] at e; cases e
        cases i with
        | zero =>
          have : d0 = d := by simpa using h
          subst this
          exact ⟨x, rfl, h1⟩
        | succ i =>
          obtain ⟨y, e1, e2⟩ := toDs_get h2 (i := i) (d := d) (by simpa using h)
          exact ⟨y, by simpa using e1, e2⟩
theorem toDs_len {f : AV → Option PyData} : ∀ {xs : List AV} {ds : List PyData}, toDs f xs = some ds → xs.length = ds.length
  | [], ds, e => by cases e; rfl
  | x :: xs, ds, e => by
    unfold toDs at e
    cases h1 : f x with
    | none => rw [h1] at e; cases e
    | some d0 =>
      cases h2 : toDs f xs with
      | none => rw [h1, h2] at e; cases e
      | some ds' =>
        rw [h1, h2] at e; cases e
        rw [List.length_cons, List.length_cons, toDs_len h2]
theorem toD_tup_eq {xs : List AV} : toD (n + 1) S (.tup xs) = (match toDs (toD n S) xs with | some ds => some (.tuple ds) | none => none) := id rfl
theorem toD_ref_eq : toD (n + 1) S (.ref r) = (match S.get r with
      | some o => (match o.seq with
        | some xs => (match toDs (toD n S) xs with
          | some ds => some (.list ds)
          | none => none)
        | none => none)
      | none => none) := id rfl
theorem toD_inv_list {v : AV} {ds : List PyData} (h : toD (n + 1) S v = some (.list ds)) : ∃ r o xs, v = .ref r ∧ S.get r = some o ∧ o.seq = some xs ∧ toDs (toD n S) xs = some ds := by
  cases v with
  | ref r =>
    rw [toD_ref_eq] at h
    cases h1 : S.get r with
    | none => rw [h1] at h; cases h
    | some o =>
      rw [h1] at h
      cases h2 : o.seq with
      | none => simp only [h2] at h; cases h
      | some xs =>
        simp only [h2] at h
        cases h3 : toDs (toD n S) xs with
        | none => rw [h3] at h; cases h
        | some ds' =>
          rw [h3] at h; cases h
          exact ⟨r, o, xs, rfl, h1, h2, h3⟩
  | tup xs =>
    rw [toD_tup_eq] at h
    cases h3 : toDs (toD n S) xs with
    | none => rw [h3] at h; cases h
    | some ds' => rw [h3] at h; cases h
  | _ => cases h
theorem toD_inv_tup {v : AV} {ds : List PyData} (h : toD (n + 1) S v = some (.tuple ds)) : ∃ xs, v = .tup xs ∧ toDs (toD n S) xs = some ds := by
  cases v with
  | ref r =>
    rw [toD_ref_eq] at h
    cases h1 : S.get r with
    | none => rw [h1] at h; cases h
    | some o =>
      rw [h1] at h
      cases h2 : o.seq with
      | none => simp only [h2] at h; cases h
      | some xs =>
        simp only [h2] at h
        cases h3 : toDs (toD n S) xs with
        | none => rw [h3] at h; cases h
        | some ds' => rw [h3] at h; cases h
  | tup xs =>
    rw [toD_tup_eq] at h
    cases h3 : toDs (toD n S) xs with
    | none => rw [h3] at h; cases h
    | some ds' => rw [h3] at h; cases h; exact ⟨xs, rfl, h3⟩
  | _ => cases h
theorem toD_inv_int {v : AV} {i : Int} (h : toD (n + 1) S v = some (.int i)) : v = .int i := by
  cases v with
  | ref r =>
    rw [toD_ref_eq] at h
    cases h1 : S.get r with
    | none => rw [h1] at h; cases h
    | some o =>
      rw [h1] at h
      cases h2 : o.seq with
      | none => simp only [h2] at h; cases h
      | some xs =>
        simp only [h2] at h
        cases h3 : toDs (toD n S) xs with
        | none => rw [h3] at h; cases h
        | some ds' => rw [h3] at h; cases h
  | tup xs =>
    rw [toD_tup_eq] at h
    cases h3 : toDs (toD n S) xs with
    | none => rw [h3] at h; cases h
    | some ds' => rw [h3] at h; cases h
  | int j => cases h; rfl
  | _ => cases h
/-- what is read stays -/
theorem toD_rel2 {k : AV → AV} (hr : ∀ r o xs, S.get r = some o → o.seq = some xs → ∃ r', k (.ref r) = .ref r' ∧ ∃ o', S'.get r' = some o' ∧ o'.seq = some (xs.map k)) (ht : ∀ xs, k (.tup xs) = .tup (xs.map k)) (h0 : k .non = .non) (h1 : ∀ b, k (.bl b) = .bl b) (h2 : ∀ i, k (.int i) = .int i) (h3 : ∀ x, k (.str x) = .str x) :
    ∀ (n : Nat) (v : AV) (d : PyData), toD n S v = some d → toD n S' (k v) = some d
  | 0, v, d, h => by cases h
  | n + 1, v, d, h => by
    have ih := toD_rel2 hr ht h0 h1 h2 h3 n
    cases v with
    | non => rw [h0]; exact h
    | bl b => rw [h1]; exact h
    | int i => rw [h2]; exact h
    | str x => rw [h3]; exact h
    | tup xs =>
      rw [toD_tup_eq] at h
      rw [ht, toD_tup_eq]
      cases e : toDs (toD n S) xs with
      | none => rw [e] at h; cases h
      | some ds => rw [e] at h; rw [toDs_map ih e]; exact h
    | ref r =>
      rw [toD_ref_eq] at h
      cases e1 : S.get r with
      | none => rw [e1] at h; cases h
      | some o =>
        rw [e1] at h
        cases e2 : o.seq with
        | none => simp only [e2] at h; cases h
        | some xs =>
          simp only [e2] at h
          obtain ⟨r', a1, o', a2, a3⟩ := hr r o xs e1 e2
          rw [a1, toD_ref_eq, a2]
          simp only [a3]
          cases e : toDs (toD n S) xs with
          | none => rw [e] at h; cases h
          | some ds => rw [e] at h; rw [toDs_map ih e]; exact h
    | ty s => cases h
    | fn s => cases h
    | cl s => cases h
theorem toD_ext (x : Ext S S') {v : AV} {d : PyData} (h : toD n S v = some d) : toD n S' v = some d :=
  toD_rel2 (k := id) (fun r o xs h1 h2 => ⟨r, rfl, o, Ext.at x h1, by rw [List.map_id]; exact h2⟩) (fun xs => by rw [List.map_id]; rfl) rfl (fun _ => rfl) (fun _ => rfl) (fun _ => rfl) n v d h
theorem toD_sh {S1 : Hs} {v : AV} {d : PyData} (h : toD n S1 v = some d) : toD n (appH S S1) (shV S.n v) = some d := by
  obtain ⟨_, _, a3⟩ := appG_get (m := S.n) (g := S1.get) S1.n 0 S
  refine toD_rel2 (S := S1) (k := shV S.n) (fun r o xs h1 h2 => ⟨S.n + r, rfl, shO S.n o, a3 r o (Hs.lt_of_get h1) (by rw [Nat.zero_add]; exact h1), ?_⟩) (fun xs => by show AV.tup (shVs S.n xs) = _; rw [shVs_map]) rfl (fun _ => rfl) (fun _ => rfl) (fun _ => rfl) n v d h
  cases o with
  | lst ys => cases h2; show some (shVs S.n xs) = _; rw [shVs_map]
  | lck o =>
    cases o with
    | lst ys => cases h2; show some (shVs S.n xs) = _; rw [shVs_map]
    | _ => cases h2
  | _ => cases h2
theorem app_ext {S1 : Hs} : Ext S (appH S S1) := by
  obtain ⟨a1, a2, _⟩ := appG_get (m := S.n) (g := S1.get) S1.n 0 S
  exact ⟨by have a1 : (appH S S1).n = S.n + S1.n := a1; omega, fun i hi _ => a2 i hi⟩
/-- what a call without objects gives -/
def grdD (r : Rs AV) : Option PyData := match r with
  | .ok v S1 => toD 10 S1 v
  | _ => none
/-- data at v, in objects that are none below lb -/
def Dt (S : Hs) (lb : Nat) (v : AV) (d : PyData) : Prop := ∀ (M : Nat → Prop) (S' : Hs), Fr M S S' → (∀ i, M i → i < lb) → toD 10 S' v = some d
theorem Dt.now {lb : Nat} {v : AV} {d : PyData} (h : Dt S lb v d) : toD 10 S v = some d := h (fun _ => False) S Fr.refl fun _ z => z.elim
theorem Dt.fr {lb : Nat} {v : AV} {d : PyData} {M : Nat → Prop} (h : Dt S lb v d) (f : Fr M S S') (hm : ∀ i, M i → i < lb) : Dt S' lb v d := fun M2 S2 f2 h2 =>
  h (fun i => M i ∨ M2 i) S2 ((f.mono fun _ _ z => .inl z).trans (f2.mono fun _ _ z => .inr z)) fun i z => z.elim (hm i) (h2 i)
theorem Dt.mono {lb lb' : Nat} {v : AV} {d : PyData} (h : Dt S lb v d) (hl : lb' ≤ lb) : Dt S lb' v d := fun M S' f hm => h M S' f fun i z => Nat.lt_of_lt_of_le (hm i z) hl
theorem Dt.ext {lb : Nat} {v : AV} {d : PyData} (h : Dt S lb v d) (f : Ext S S') : Dt S' lb v d := h.fr f fun _ z => z.elim
theorem Dt.sh {S1 : Hs} {v : AV} {d : PyData} (h : toD 10 S1 v = some d) : Dt (appH S S1) S.n (shV S.n v) d := fun M S2 f hm => by
  obtain ⟨_, _, a3⟩ := appG_get (m := S.n) (g := S1.get) S1.n 0 S
  refine toD_rel2 (S := S1) (k := shV S.n) (fun r o xs h1 h2 => ⟨S.n + r, rfl, shO S.n o, f.at (a3 r o (Hs.lt_of_get h1) (by rw [Nat.zero_add]; exact h1)) (fun z => by have := hm _ z; omega), ?_⟩) (fun xs => by show AV.tup (shVs S.n xs) = _; rw [shVs_map]) rfl (fun _ => rfl) (fun _ => rfl) (fun _ => rfl) 10 v d h
  cases o with
  | lst ys => cases h2; show some (shVs S.n xs) = _; rw [shVs_map]
  | lck o =>
    cases o with
    | lst ys => cases h2; show some (shVs S.n xs) = _; rw [shVs_map]
    | _ => cases h2
  | _ => cases h2
theorem W_grd {r : Rs AV} {d : PyData} {Q : AV → Hs → Prop} (h : grdD r = some d) (k : ∀ v S', Ext S S' → Dt S' S.n v d → Q v S') : W (liftG S r) Q := by
  cases r with
  | ok v S1 => exact ⟨_, _, rfl, k _ _ app_ext (Dt.sh h)⟩
  | exc x S1 => cases h
  | bad => cases h
theorem idx_data {v : AV} {ds : List PyData} {i : Nat} {d : PyData} (h : toD (n + 1) S v = some (.list ds)) (hi : ds[i]? = some d) : ∃ x, idxA v (.int (i : Int)) S = .ok x S ∧ toD n S x = some d := by
  obtain ⟨r, o, xs, rfl, h1, h2, h3⟩ := toD_inv_list h
  obtain ⟨x, e1, e2⟩ := toDs_get h3 hi
  refine ⟨x, ?_, e2⟩
  have e : seqOf S (.ref r) = some xs := by
    show (match S.get r with | some o => o.seq | none => none) = _
    rw [h1]; exact h2
  unfold idxA
  rw [e]
  show (match atI xs (i : Int) with | some v => Rs.ok v S | none => .bad) = _
  rw [atI_nat e1]
theorem len_data {v : AV} {ds : List PyData} (h : toD (n + 1) S v = some (.list ds)) : bltA .len [v] S = .ok (.int ds.length) S := by
  obtain ⟨r, o, xs, rfl, h1, h2, h3⟩ := toD_inv_list h
  have e : seqOf S (.ref r) = some xs := by
    show (match S.get r with | some o => o.seq | none => none) = _
    rw [h1]; exact h2
  show (match seqOf S (.ref r) with
    | some ys => Rs.ok (AV.int ys.length) S
    | none => (match dctOf S (.ref r) with
      | some kvs => .ok (AV.int kvs.length) S
      | none => .bad)) = _
  rw [e, ← toDs_len h3]
end
end Ab

namespace Ab
open PySem L2
section
variable {P : Pe} {n i k m : Nat} {a b c e : E} {es : List E} {ρ ρ1 : Ev} {S S' : Hs}
/-- an exception of the class k, with its fields -/
def Xo (S : Hs) (v : AV) (k : Nat) (fs : List (Nat × AV)) : Prop := ∃ r, v = .ref r ∧ ((fs = [] ∧ S.get r = some (.exo k none)) ∨ ∃ n, S.get r = some (.exo k (some n)) ∧ S.get n = some (.xdc fs))
theorem Xo.ext {v : AV} {fs : List (Nat × AV)} (h : Xo S v k fs) (x : Ext S S') : Xo S' v k fs := by
  obtain ⟨r, e, h⟩ := h
  rcases h with ⟨h1, h2⟩ | ⟨n, h1, h2⟩
  · exact ⟨r, e, .inl ⟨h1, Ext.at x h2⟩⟩
  · exact ⟨r, e, .inr ⟨n, Ext.at x h1, Ext.at x h2⟩⟩
theorem Xo.ex {v : AV} {fs : List (Nat × AV)} (h : Xo S v k fs) : exAt S v = some k := by
  obtain ⟨r, rfl, h⟩ := h
  rcases h with ⟨_, h2⟩ | ⟨n, h1, h2⟩
  · unfold exAt
    dsimp only
    rw [h2]
  · unfold exAt
    dsimp only
    rw [h1]
    dsimp only
    rw [h2]
theorem Xo.fld {v y : AV} {fs : List (Nat × AV)} {G : Gx} {f : Nat} (h : Xo S v k fs) (l : fs.lookup f = some y) (hx : isXf G k f = true) : fldA G S v f = .ok y S := by
  obtain ⟨r, rfl, h⟩ := h
  rcases h with ⟨h1, h2⟩ | ⟨n, h1, h2⟩
  · rw [h1] at l; cases l
  · rw [fld_r, h1]
    show (match S.get n with
      | some (.xdc fs) => (match fs.lookup f with
        | some v => if isXf G k f = true then Rs.ok v S else .bad
        | none => .bad)
      | _ => .bad) = _
    rw [h2]
    dsimp only
    rw [l]
    dsimp only
    rw [hx]; rfl
theorem isi_x {v : AV} {fs : List (Nat × AV)} {G : Gx} {c : Cl} {u : Ty} {b : Bool} (h : Xo S v k fs) (hc : G.cls[k]? = some c) (hx : c.xb ≠ 0) (hu : isTy G (.c k) u = some b) : isiE G S v [u] = some b := by
  unfold isiE
  rw [h.ex]
  dsimp only
  rw [hc]
  dsimp only
  rw [if_pos hx]
  unfold isTys
  rw [hu]
  cases b <;> rfl
theorem W_xmk {vs : List AV} {c : Cl} {Q : AV → Hs → Prop} (hc : P.G.cls[k]? = some c) (hi : c.xi = some i) (h : W (P.C i (.ref S.n :: vs) (S.push (.exo k none))) fun v S' => v = .non ∧ Q (.ref S.n) S') : W (xmkA P k vs S) Q := by
  unfold xmkA
  rw [hc]
  dsimp only
  rw [hi]
  dsimp only
  rw [W_bind]
  refine h.mono fun v S' ⟨e, q⟩ => ?_
  subst e
  show W (.ok (.ref S.n) S') Q
  rw [W_ok]; exact q
theorem xsup_ok {D r : Nat} {args : Hs → Rs (List AV)} {vs : List AV} (h : S.get r = some (.exo D none)) (ha : args S = .ok vs S) : xsupA D (some (some (.ref r))) S args = .ok .non S := by
  unfold xsupA
  dsimp only
  rw [h]
  dsimp only
  rw [if_pos rfl, ha]
  show (match S.get r with
    | some (.exo k none) => if k = D then Rs.ok AV.non S else .bad
    | _ => .bad) = _
  rw [h]
  dsimp only
  rw [if_pos rfl]
theorem setX0 {G : Gx} {r f : Nat} {v : AV} (h : S.get r = some (.exo k none)) (hf : isXf G k f = true) : setFA G (.ref r) f v S = .ok () ((S.push (.xdc [(f, v)])).set r (.exo k (some S.n))) := by
  unfold setFA
  dsimp only
  rw [h]
  dsimp only
  rw [hf]; rfl
theorem setX1 {G : Gx} {r f : Nat} {v : AV} {fs : List (Nat × AV)} (h : S.get r = some (.exo k (some n))) (h2 : S.get n = some (.xdc fs)) (hl : fs.length ≤ 900) (hf : isXf G k f = true) : setFA G (.ref r) f v S = .ok () (S.set n (.xdc ((f, v) :: fs))) := by
  unfold setFA
  dsimp only
  rw [h]
  dsimp only
  rw [h2]
  dsimp only
  rw [hf, decide_eq_true hl]; rfl
theorem set_n0 {r : Nat} {o : AO} : (S.set r o).n = S.n := rfl
/-- C(..): no field -/
theorem mk0 {G : Gx} {fb : List Fb} {d : Nat} {c : Cl} {vs : List AV} {y : Str} {m : E} {N : Nat} {Q : AV → Hs → Prop} (hc : G.cls[k]? = some c) (hi : c.xi = some i) (hf : fb[i]? = some ⟨N, vs.length + 1, [.expr (.xsup k [m])]⟩) (hN : vs.length + 1 ≤ N) (hg : G.grd.contains i = false)
    (hm : ∀ r S', Ext S S' → ev ⟨G, callN G fb d⟩ 398 m (envO (.ref r :: vs) N) S' = .ok (.str y) S') (q : ∀ v S', Ext S S' → Xo S' v k [] → Q v S') : W (xmkA ⟨G, callN G fb (d + 1)⟩ k vs S) Q := by
  refine W_xmk (P := ⟨G, callN G fb (d + 1)⟩) hc hi ?_
  have x1 : Ext S (S.push (.exo k none)) := Fr.push
  show W (callN G fb (d + 1) i (.ref S.n :: vs) (S.push (.exo k none))) _
  refine W_call hf rfl hN hg ?_
  obtain ⟨N', rfl⟩ : ∃ N', N = N' + 1 := ⟨N - 1, by omega⟩
  have e0 : (envO (.ref S.n :: vs) (N' + 1))[0]? = some (some (.ref S.n)) := by rw [envO_c]; rfl
  have h1 : ev ⟨G, callN G fb d⟩ 399 (.xsup k [m]) (envO (.ref S.n :: vs) (N' + 1)) (S.push (.exo k none)) = .ok .non (S.push (.exo k none)) := by
    rw [ev_xsup, e0]
    exact xsup_ok (vs := [.str y]) (Hs.get_push_self _ _) (by rw [evL_cons, hm _ _ x1]; rfl)
  rw [exs_cons, ex_expr, h1]
  show WS (Re.fl (.nx _) _) _
  rw [WS_fl]
  exact ⟨rfl, q _ _ x1 ⟨S.n, rfl, .inl ⟨rfl, Hs.get_push_self _ _⟩⟩⟩
/-- C(..): one field -/
theorem mk1 {G : Gx} {fb : List Fb} {d f : Nat} {c : Cl} {vs : List AV} {y : Str} {v : AV} {m e : E} {N : Nat} {Q : AV → Hs → Prop} (hc : G.cls[k]? = some c) (hi : c.xi = some i) (hf : fb[i]? = some ⟨N, vs.length + 1, [.expr (.xsup k [m]), .asg (.fld (.var 0) f) e]⟩) (hN : vs.length + 1 ≤ N) (hg : G.grd.contains i = false) (hx : isXf G k f = true)
    (hm : ∀ r S', Ext S S' → ev ⟨G, callN G fb d⟩ 398 m (envO (.ref r :: vs) N) S' = .ok (.str y) S') (he : ∀ r S', Ext S S' → ev ⟨G, callN G fb d⟩ 399 e (envO (.ref r :: vs) N) S' = .ok v S')
    (q : ∀ w S', Ext S S' → Xo S' w k [(f, v)] → Q w S') : W (xmkA ⟨G, callN G fb (d + 1)⟩ k vs S) Q := by
  refine W_xmk (P := ⟨G, callN G fb (d + 1)⟩) hc hi ?_
  have x1 : Ext S (S.push (.exo k none)) := Fr.push
  show W (callN G fb (d + 1) i (.ref S.n :: vs) (S.push (.exo k none))) _
  refine W_call hf rfl hN hg ?_
  obtain ⟨N', rfl⟩ : ∃ N', N = N' + 1 := ⟨N - 1, by omega⟩
  have e0 : (envO (.ref S.n :: vs) (N' + 1))[0]? = some (some (.ref S.n)) := by rw [envO_c]; rfl
  have h1 : ev ⟨G, callN G fb d⟩ 399 (.xsup k [m]) (envO (.ref S.n :: vs) (N' + 1)) (S.push (.exo k none)) = .ok .non (S.push (.exo k none)) := by
    rw [ev_xsup, e0]
    exact xsup_ok (vs := [.str y]) (Hs.get_push_self _ _) (by rw [evL_cons, hm _ _ x1]; rfl)
  have g1 : (S.push (.exo k none)).get S.n = some (.exo k none) := Hs.get_push_self _ _
  have h2 := he S.n _ x1
  have h3 : ev ⟨G, callN G fb d⟩ 399 (.var 0) (envO (.ref S.n :: vs) (N' + 1)) (S.push (.exo k none)) = .ok (.ref S.n) (S.push (.exo k none)) := by rw [envO_c]; rfl
  have h4 := setX0 (G := G) (f := f) (v := v) g1 hx
  have h5 : asg G (fun e ρ S => ev ⟨G, callN G fb d⟩ 399 e ρ S) 399 (.fld (.var 0) f) v (envO (.ref S.n :: vs) (N' + 1)) (S.push (.exo k none)) = .ok (envO (.ref S.n :: vs) (N' + 1)) (((S.push (.exo k none)).push (.xdc [(f, v)])).set S.n (.exo k (some (S.push (.exo k none)).n))) := by
    rw [asg_fld, h3]
    show (setFA G (.ref S.n) f v (S.push (.exo k none))).bind _ = _
    rw [h4]; rfl
  rw [exs_cons, ex_expr, h1]
  show WS (exs _ [.asg (.fld (.var 0) f) e] _ _) _
  rw [exs_cons, ex_asg, h2]
  show WS (((asg G (fun e ρ S => ev ⟨G, callN G fb d⟩ 399 e ρ S) 399 (.fld (.var 0) f) v (envO (.ref S.n :: vs) (N' + 1)) (S.push (.exo k none))).st _ fun ρ1 S2 => .fl (.nx ρ1) S2).seq _) _
  rw [h5]
  show WS (Re.fl (.nx _) _) _
  rw [WS_fl]
  have n2 : (S.push (.exo k none)).n = S.n + 1 := rfl
  have lt : S.n < ((S.push (.exo k none)).push (.xdc [(f, v)])).n := by rw [Hs.push_n, n2]; omega
  refine ⟨rfl, q _ _ ⟨?_, fun j hj _ => ?_⟩ ⟨S.n, rfl, .inr ⟨S.n + 1, Hs.get_set_self lt, ?_⟩⟩⟩
  · rw [Hs.set_n, Hs.push_n, n2]; omega
  · rw [Hs.get_set_ne (by omega), Hs.get_push_ne (by rw [n2]; omega), Hs.get_push_ne (by omega)]
  · rw [Hs.get_set_ne (by omega)]
    exact Hs.get_push_self _ _
/-- C(..): two fields -/
theorem mk2 {G : Gx} {fb : List Fb} {d f f2 : Nat} {c : Cl} {vs : List AV} {y : Str} {v v2 : AV} {m e e2 : E} {N : Nat} {Q : AV → Hs → Prop} (hc : G.cls[k]? = some c) (hi : c.xi = some i) (hf : fb[i]? = some ⟨N, vs.length + 1, [.expr (.xsup k [m]), .asg (.fld (.var 0) f) e, .asg (.fld (.var 0) f2) e2]⟩) (hN : vs.length + 1 ≤ N) (hg : G.grd.contains i = false) (hx : isXf G k f = true) (hx2 : isXf G k f2 = true)
    (hm : ∀ r S', Ext S S' → ev ⟨G, callN G fb d⟩ 398 m (envO (.ref r :: vs) N) S' = .ok (.str y) S') (he : ∀ r S', Ext S S' → ev ⟨G, callN G fb d⟩ 399 e (envO (.ref r :: vs) N) S' = .ok v S') (he2 : ∀ r S', Ext S S' → ev ⟨G, callN G fb d⟩ 399 e2 (envO (.ref r :: vs) N) S' = .ok v2 S')
    (q : ∀ w S', Ext S S' → Xo S' w k [(f2, v2), (f, v)] → Q w S') : W (xmkA ⟨G, callN G fb (d + 1)⟩ k vs S) Q := by
  refine W_xmk (P := ⟨G, callN G fb (d + 1)⟩) hc hi ?_
  have x1 : Ext S (S.push (.exo k none)) := Fr.push
  show W (callN G fb (d + 1) i (.ref S.n :: vs) (S.push (.exo k none))) _
  refine W_call hf rfl hN hg ?_
  obtain ⟨N', rfl⟩ : ∃ N', N = N' + 1 := ⟨N - 1, by omega⟩
  have e0 : (envO (.ref S.n :: vs) (N' + 1))[0]? = some (some (.ref S.n)) := by rw [envO_c]; rfl
  have h1 : ev ⟨G, callN G fb d⟩ 399 (.xsup k [m]) (envO (.ref S.n :: vs) (N' + 1)) (S.push (.exo k none)) = .ok .non (S.push (.exo k none)) := by
    rw [ev_xsup, e0]
    exact xsup_ok (vs := [.str y]) (Hs.get_push_self _ _) (by rw [evL_cons, hm _ _ x1]; rfl)
  have g1 : (S.push (.exo k none)).get S.n = some (.exo k none) := Hs.get_push_self _ _
  have hv : ∀ S', ev ⟨G, callN G fb d⟩ 399 (.var 0) (envO (.ref S.n :: vs) (N' + 1)) S' = .ok (.ref S.n) S' := fun S' => by rw [envO_c]; rfl
  have h4 := setX0 (G := G) (f := f) (v := v) g1 hx
  have h5 : ∀ {S1 S2 : Hs} {f : Nat} {v : AV}, setFA G (.ref S.n) f v S1 = .ok () S2 → asg G (fun e ρ S => ev ⟨G, callN G fb d⟩ 399 e ρ S) 399 (.fld (.var 0) f) v (envO (.ref S.n :: vs) (N' + 1)) S1 = .ok (envO (.ref S.n :: vs) (N' + 1)) S2 := fun {S1 S2 f v} h => by
    rw [asg_fld, hv]
    show (setFA G (.ref S.n) f v S1).bind _ = _
    rw [h]; rfl
  have n2 : (S.push (.exo k none)).n = S.n + 1 := rfl
  have lt : S.n < ((S.push (.exo k none)).push (.xdc [(f, v)])).n := by rw [Hs.push_n, n2]; omega
  generalize hS2 : ((S.push (.exo k none)).push (.xdc [(f, v)])).set S.n (.exo k (some (S.push (.exo k none)).n)) = S2 at h4
  have x2 : Ext S S2 := by
    rw [← hS2]
    refine ⟨?_, fun j hj _ => ?_⟩
    · rw [Hs.set_n, Hs.push_n, n2]; omega
    · rw [Hs.get_set_ne (by omega), Hs.get_push_ne (by rw [n2]; omega), Hs.get_push_ne (by omega)]
  have g2 : S2.get S.n = some (.exo k (some (S.n + 1))) := by
    rw [← hS2]
    exact Hs.get_set_self lt
  have g3 : S2.get (S.n + 1) = some (.xdc [(f, v)]) := by
    rw [← hS2, Hs.get_set_ne (by omega)]
    exact Hs.get_push_self _ _
  have h6 := setX1 (G := G) (f := f2) (v := v2) g2 g3 (by simp) hx2
  rw [exs_cons, ex_expr, h1]
  show WS (exs _ [.asg (.fld (.var 0) f) e, .asg (.fld (.var 0) f2) e2] _ _) _
  rw [exs_cons, ex_asg, he S.n _ x1]
  show WS (((asg G (fun e ρ S => ev ⟨G, callN G fb d⟩ 399 e ρ S) 399 (.fld (.var 0) f) v (envO (.ref S.n :: vs) (N' + 1)) (S.push (.exo k none))).st _ fun ρ1 S2 => .fl (.nx ρ1) S2).seq _) _
  rw [h5 h4]
  show WS (exs _ [.asg (.fld (.var 0) f2) e2] _ _) _
  rw [exs_cons, ex_asg, he2 S.n _ x2]
  show WS (((asg G (fun e ρ S => ev ⟨G, callN G fb d⟩ 399 e ρ S) 399 (.fld (.var 0) f2) v2 (envO (.ref S.n :: vs) (N' + 1)) S2).st _ fun ρ1 S2 => .fl (.nx ρ1) S2).seq _) _
  rw [h5 h6]
  show WS (Re.fl (.nx _) _) _
  rw [WS_fl]
  have lt2 : S.n + 1 < S2.n := Hs.lt_of_get g3
  refine ⟨rfl, q _ _ ⟨?_, fun j hj _ => ?_⟩ ⟨S.n, rfl, .inr ⟨S.n + 1, ?_, Hs.get_set_self lt2⟩⟩⟩
  · rw [Hs.set_n]; omega
  · rw [Hs.get_set_ne (by omega)]; exact x2.get j hj id
  · rw [Hs.get_set_ne (by omega)]; exact g2
/-- lists joined -/
def catO (a b : Option AO) (S : Hs) : Rs AV := match a, b with
  | some (.lst xs), some (.lst ys) => cnd (okLen (xs.length + ys.length)) (alloc S (.lst (xs ++ ys))) .bad
  | _, _ => .bad
theorem cat_rr (a b : Nat) : binA .Add (.ref a) (.ref b) S = catO (S.get a) (S.get b) S := by
  show catA S .Add (lstOf S (.ref a)) (lstOf S (.ref b)) = _
  have e : ∀ a, lstOf S (.ref a) = (match S.get a with
    | some (.lst xs) => some xs
    | _ => none) := fun _ => rfl
  rw [e, e]
  cases S.get a with
  | none => rfl
  | some o =>
    cases o with
    | lst xs =>
      cases S.get b with
      | none => rfl
      | some o2 =>
        cases o2 with
        | lst ys => rfl
        | _ => rfl
    | _ => rfl
theorem catO_l {xs ys : List AV} (h : xs.length + ys.length ≤ 100000) : catO (some (.lst xs)) (some (.lst ys)) S = .ok (.ref S.n) (S.push (.lst (xs ++ ys))) := by
  show cnd (okLen (xs.length + ys.length)) _ _ = _
  rw [okLen_s h]; rfl
theorem get_push_eq {i : Nat} {o : AO} (h : i = S.n) : (S.push o).get i = some o := by rw [h]; exact Hs.get_push_self _ _
theorem ns_xmk : isStar (.xmk k es) = none := id rfl
theorem ns_jn : isStar (.jn es) = none := id rfl
end
end Ab

namespace La
open PySem PySem.Spec PyProof.Rows L2 Ab
def top (i : Nat) : Stmt := PySem.Challenge.pw_neargrades_k13_errors.main.body.getD i (.Pass ⟨0, 0, 0, 0⟩)
def clsBody : Stmt → List Stmt
  | .ClassDef _ _ _ b _ _ _ _ _ _ _ => b
  | _ => []
def inCls (i j : Nat) : Stmt := (clsBody (top i)).getD j (.Pass ⟨0, 0, 0, 0⟩)
def mkU (f : Str × Option Str) (x q : Str) (s : Stmt) (N : List Str) : Fu := ⟨f, x, q, (defArgs s).args, defBody s, defScope s, N⟩
def at0 : List Str := ["part", "members", "name", "path", "place", "spots", "number"]
def nms : List Str := at0
def u0 : Fu := mkU ("_law_pen", none) "_law_pen" "_law_pen" (top 34) ["_law_script"]
def u1 : Fu := mkU ("_law_next", none) "_law_next" "_law_next" (top 35) ["_law_pen_here", "_law_index", "_law_cell_here", "_law_some", "_law_more", "_law_high"]
def u2 : Fu := mkU ("_law_draw", none) "_law_draw" "_law_draw" (top 36) ["_law_pen_here", "_law_under", "_law_digit"]
def u3 : Fu := mkU ("_law_kinds", none) "_law_kinds" "_law_kinds" (top 37) ["_law_e", "_law_found"]
def u4 : Fu := mkU ("_law_bases", none) "_law_bases" "_law_bases" (top 38) ["_law_e", "_law_found"]
def u5 : Fu := mkU ("_law_plain", none) "_law_plain" "_law_plain" (top 39) ["_law_found"]
def u6 : Fu := mkU ("_law_told", none) "_law_told" "_law_told" (top 40) ["_law_word", "_law_some", "_law_found"]
def u7 : Fu := mkU ("_law_kept", none) "_law_kept" "_law_kept" (top 41) ["_law_word", "_law_number", "_law_some", "_law_told_here", "_law_k", "_law_names"]
def u8 : Fu := mkU ("law", none) "law" "law" (top 42) ["_law_script", "_law_pen_here", "_law_lap", "_law_word", "_law_number", "_law_some", "_law_every", "_law_k", "_law_j"]
def us0 : List Fu := [u0, u1, u2, u3, u4, u5, u6, u7, u8]
def us : List Fu := us0
def v0 : FuS := ⟨("BadScale", some "__init__"), "__init__", "BadScale.__init__", defArgs (inCls 3 0), defBody (inCls 3 0), defScope (inCls 3 0), ["self"], ["self"], [], 2, 0, true⟩
def v1 : FuS := ⟨("BadImages", some "__init__"), "__init__", "BadImages.__init__", defArgs (inCls 4 0), defBody (inCls 4 0), defScope (inCls 4 0), ["self"], ["self"], [], 3, 0, true⟩
def v2 : FuS := ⟨("BadTable", some "__init__"), "__init__", "BadTable.__init__", defArgs (inCls 5 0), defBody (inCls 5 0), defScope (inCls 5 0), ["self"], ["self"], [], 4, 0, true⟩
def v3 : FuS := ⟨("BadPaper", some "__init__"), "__init__", "BadPaper.__init__", defArgs (inCls 6 0), defBody (inCls 6 0), defScope (inCls 6 0), ["self"], ["self"], [], 5, 0, true⟩
def v4 : FuS := ⟨("BadBlocks", some "__init__"), "__init__", "BadBlocks.__init__", defArgs (inCls 7 0), defBody (inCls 7 0), defScope (inCls 7 0), ["self"], ["self"], [], 6, 0, true⟩
def v5 : FuS := ⟨("BadTurn", some "__init__"), "__init__", "BadTurn.__init__", defArgs (inCls 8 0), defBody (inCls 8 0), defScope (inCls 8 0), ["self"], ["self"], [], 7, 0, true⟩
def v6 : FuS := ⟨("BadDeed", some "__init__"), "__init__", "BadDeed.__init__", defArgs (inCls 9 0), defBody (inCls 9 0), defScope (inCls 9 0), ["self"], ["self"], [], 8, 0, true⟩
def v7 : FuS := ⟨("MixedScales", some "__init__"), "__init__", "MixedScales.__init__", defArgs (inCls 10 0), defBody (inCls 10 0), defScope (inCls 10 0), ["self"], ["self"], [], 9, 0, true⟩
def v8 : FuS := ⟨("MixedKinds", some "__init__"), "__init__", "MixedKinds.__init__", defArgs (inCls 11 0), defBody (inCls 11 0), defScope (inCls 11 0), ["self"], ["self"], [], 10, 0, true⟩
def v9 : FuS := ⟨("TooMany", some "__init__"), "__init__", "TooMany.__init__", defArgs (inCls 12 0), defBody (inCls 12 0), defScope (inCls 12 0), ["self"], ["self"], [], 11, 0, true⟩
def v10 : FuS := ⟨("NothingDone", some "__init__"), "__init__", "NothingDone.__init__", defArgs (inCls 13 0), defBody (inCls 13 0), defScope (inCls 13 0), ["self"], ["self"], [], 12, 0, true⟩
def v11 : FuS := ⟨("NotKept", some "__init__"), "__init__", "NotKept.__init__", defArgs (inCls 14 0), defBody (inCls 14 0), defScope (inCls 14 0), ["self", "part", "members"], ["self", "part", "members"], [], 13, 0, true⟩
def v12 : FuS := ⟨("NotLike", some "__init__"), "__init__", "NotLike.__init__", defArgs (inCls 15 0), defBody (inCls 15 0), defScope (inCls 15 0), ["self", "members"], ["self", "members"], [], 14, 0, true⟩
def v13 : FuS := ⟨("NotThrough", some "__init__"), "__init__", "NotThrough.__init__", defArgs (inCls 16 0), defBody (inCls 16 0), defScope (inCls 16 0), ["self", "members"], ["self", "members"], [], 15, 0, true⟩
def v14 : FuS := ⟨("NotSame", some "__init__"), "__init__", "NotSame.__init__", defArgs (inCls 17 0), defBody (inCls 17 0), defScope (inCls 17 0), ["self", "name"], ["self", "name"], [], 16, 0, true⟩
def v15 : FuS := ⟨("NotIdempotent", some "__init__"), "__init__", "NotIdempotent.__init__", defArgs (inCls 18 0), defBody (inCls 18 0), defScope (inCls 18 0), ["self", "name"], ["self", "name"], [], 17, 0, true⟩
def v16 : FuS := ⟨("NoStep", some "__init__"), "__init__", "NoStep.__init__", defArgs (inCls 19 0), defBody (inCls 19 0), defScope (inCls 19 0), ["self", "name"], ["self", "name"], [], 18, 0, true⟩
def v17 : FuS := ⟨("OpenState", some "__init__"), "__init__", "OpenState.__init__", defArgs (inCls 20 0), defBody (inCls 20 0), defScope (inCls 20 0), ["self", "name"], ["self", "name"], [], 19, 0, true⟩
def v18 : FuS := ⟨("BadName", some "__init__"), "__init__", "BadName.__init__", defArgs (inCls 21 0), defBody (inCls 21 0), defScope (inCls 21 0), ["self", "name"], ["self", "name"], [], 20, 0, true⟩
def v19 : FuS := ⟨("TwiceTold", some "__init__"), "__init__", "TwiceTold.__init__", defArgs (inCls 22 0), defBody (inCls 22 0), defScope (inCls 22 0), ["self", "name"], ["self", "name"], [], 21, 0, true⟩
def v20 : FuS := ⟨("BadKind", some "__init__"), "__init__", "BadKind.__init__", defArgs (inCls 23 0), defBody (inCls 23 0), defScope (inCls 23 0), ["self", "path"], ["self", "path"], [], 22, 0, true⟩
def v21 : FuS := ⟨("BadValue", some "__init__"), "__init__", "BadValue.__init__", defArgs (inCls 24 0), defBody (inCls 24 0), defScope (inCls 24 0), ["self", "path"], ["self", "path"], [], 23, 0, true⟩
def v22 : FuS := ⟨("BadSaying", some "__init__"), "__init__", "BadSaying.__init__", defArgs (inCls 25 0), defBody (inCls 25 0), defScope (inCls 25 0), ["self", "path"], ["self", "path"], [], 24, 0, true⟩
def v23 : FuS := ⟨("BadText", some "__init__"), "__init__", "BadText.__init__", defArgs (inCls 26 0), defBody (inCls 26 0), defScope (inCls 26 0), ["self", "place"], ["self", "place"], [], 25, 0, true⟩
def v24 : FuS := ⟨("Clash", some "__init__"), "__init__", "Clash.__init__", defArgs (inCls 27 0), defBody (inCls 27 0), defScope (inCls 27 0), ["self", "spots"], ["self", "spots"], [], 26, 0, true⟩
def v25 : FuS := ⟨("UnknownGrade", some "__init__"), "__init__", "UnknownGrade.__init__", defArgs (inCls 28 0), defBody (inCls 28 0), defScope (inCls 28 0), ["self", "name"], ["self", "name"], [], 27, 0, true⟩
def v26 : FuS := ⟨("UnknownName", some "__init__"), "__init__", "UnknownName.__init__", defArgs (inCls 29 0), defBody (inCls 29 0), defScope (inCls 29 0), ["self", "name"], ["self", "name"], [], 28, 0, true⟩
def v27 : FuS := ⟨("UnknownState", some "__init__"), "__init__", "UnknownState.__init__", defArgs (inCls 30 0), defBody (inCls 30 0), defScope (inCls 30 0), ["self", "name"], ["self", "name"], [], 29, 0, true⟩
def v28 : FuS := ⟨("NotTold", some "__init__"), "__init__", "NotTold.__init__", defArgs (inCls 31 0), defBody (inCls 31 0), defScope (inCls 31 0), ["self", "name"], ["self", "name"], [], 30, 0, true⟩
def v29 : FuS := ⟨("NoState", some "__init__"), "__init__", "NoState.__init__", defArgs (inCls 32 0), defBody (inCls 32 0), defScope (inCls 32 0), ["self", "number"], ["self", "number"], [], 31, 0, true⟩
def vs : List FuS := [v0, v1, v2, v3, v4, v5, v6, v7, v8, v9, v10, v11, v12, v13, v14, v15, v16, v17, v18, v19, v20, v21, v22, v23, v24, v25, v26, v27, v28, v29]
def fns0 : List (Str × Option Str) := [("_law_pen", none), ("_law_next", none), ("_law_draw", none), ("_law_kinds", none), ("_law_bases", none), ("_law_plain", none), ("_law_told", none), ("_law_kept", none), ("law", none), ("BadScale", some "__init__"), ("BadImages", some "__init__"), ("BadTable", some "__init__"), ("BadPaper", some "__init__"), ("BadBlocks", some "__init__"), ("BadTurn", some "__init__"), ("BadDeed", some "__init__"), ("MixedScales", some "__init__"), ("MixedKinds", some "__init__"), ("TooMany", some "__init__"), ("NothingDone", some "__init__"), ("NotKept", some "__init__"), ("NotLike", some "__init__"), ("NotThrough", some "__init__"), ("NotSame", some "__init__"), ("NotIdempotent", some "__init__"), ("NoStep", some "__init__"), ("OpenState", some "__init__"), ("BadName", some "__init__"), ("TwiceTold", some "__init__"), ("BadKind", some "__init__")]
def fns1 : List (Str × Option Str) := [("BadValue", some "__init__"), ("BadSaying", some "__init__"), ("BadText", some "__init__"), ("Clash", some "__init__"), ("UnknownGrade", some "__init__"), ("UnknownName", some "__init__"), ("UnknownState", some "__init__"), ("NotTold", some "__init__"), ("NoState", some "__init__")]
def fns : List (Str × Option Str) := fns0 ++ fns1
def cls : List Cl := [
  ⟨"NeargradesError", [], none, [0], [], false, 1, [], none⟩,
  ⟨"NameMissing", [], none, [1], [], false, 2, [], none⟩,
  ⟨"BadScale", [], none, [2, 0], [], false, 1, [], some 9⟩,
  ⟨"BadImages", [], none, [3, 0], [], false, 1, [], some 10⟩,
  ⟨"BadTable", [], none, [4, 0], [], false, 1, [], some 11⟩,
  ⟨"BadPaper", [], none, [5, 0], [], false, 1, [], some 12⟩,
  ⟨"BadBlocks", [], none, [6, 0], [], false, 1, [], some 13⟩,
  ⟨"BadTurn", [], none, [7, 0], [], false, 1, [], some 14⟩,
  ⟨"BadDeed", [], none, [8, 0], [], false, 1, [], some 15⟩,
  ⟨"MixedScales", [], none, [9, 0], [], false, 1, [], some 16⟩,
  ⟨"MixedKinds", [], none, [10, 0], [], false, 1, [], some 17⟩,
  ⟨"TooMany", [], none, [11, 0], [], false, 1, [], some 18⟩,
  ⟨"NothingDone", [], none, [12, 0], [], false, 1, [], some 19⟩,
  ⟨"NotKept", [], none, [13, 0], [], false, 1, [0, 1], some 20⟩,
  ⟨"NotLike", [], none, [14, 0], [], false, 1, [1], some 21⟩,
  ⟨"NotThrough", [], none, [15, 0], [], false, 1, [1], some 22⟩,
  ⟨"NotSame", [], none, [16, 0], [], false, 1, [2], some 23⟩,
  ⟨"NotIdempotent", [], none, [17, 0], [], false, 1, [2], some 24⟩,
  ⟨"NoStep", [], none, [18, 0], [], false, 1, [2], some 25⟩,
  ⟨"OpenState", [], none, [19, 0], [], false, 1, [2], some 26⟩,
  ⟨"BadName", [], none, [20, 0], [], false, 1, [2], some 27⟩,
  ⟨"TwiceTold", [], none, [21, 0], [], false, 1, [2], some 28⟩,
  ⟨"BadKind", [], none, [22, 0], [], false, 1, [3], some 29⟩,
  ⟨"BadValue", [], none, [23, 0], [], false, 1, [3], some 30⟩,
  ⟨"BadSaying", [], none, [24, 0], [], false, 1, [3], some 31⟩,
  ⟨"BadText", [], none, [25, 0], [], false, 1, [4], some 32⟩,
  ⟨"Clash", [], none, [26, 0], [], false, 1, [5], some 33⟩,
  ⟨"UnknownGrade", [], none, [27, 1], [], false, 2, [2], some 34⟩,
  ⟨"UnknownName", [], none, [28, 1], [], false, 2, [2], some 35⟩,
  ⟨"UnknownState", [], none, [29, 1], [], false, 2, [2], some 36⟩,
  ⟨"NotTold", [], none, [30, 1], [], false, 2, [2], some 37⟩,
  ⟨"NoState", [], none, [31, 1], [], false, 2, [6], some 38⟩]
def cons : List (Str × AV) := []
def kws : List (Nat × List Str) := []
def grd : List Nat := []
def G : Gx := ⟨nms, fns, cls, cons, kws, grd⟩
def fn : List He.DefD := us.map fun u => ⟨u.f, u.name, u.qual, u.par, u.body, u.scope, [], []⟩
def nm0 : List Str := ["NeargradesError", "NameMissing", "BadScale", "BadImages", "BadTable", "BadPaper", "BadBlocks", "BadTurn", "BadDeed", "MixedScales", "MixedKinds", "TooMany", "NothingDone", "NotKept", "NotLike", "NotThrough", "NotSame", "NotIdempotent", "NoStep", "OpenState", "BadName", "TwiceTold", "BadKind", "BadValue", "BadSaying", "BadText", "Clash", "UnknownGrade", "UnknownName", "UnknownState"]
def nm1 : List Str := ["NotTold", "NoState", "_law_pen", "_law_next", "_law_draw", "_law_kinds", "_law_bases", "_law_plain", "_law_told", "_law_kept"]
def loose : List Str := nm0 ++ nm1
def lawAt : Nat := 42
def lawK : Nat := 8
end La

namespace La
open PySem PySem.Spec PyProof.Rows L2 Ab
def s_E : Str := ⟨#[]⟩
theorem ks_E : PyData.strOk s_E = true := by decide +kernel
def s_x : Str := ⟨#[120]⟩
theorem ks_x : PyData.strOk s_x = true := by decide +kernel
def s_no_such_grade : Str := ⟨#[110, 111, 32, 115, 117, 99, 104, 32, 103, 114, 97, 100, 101]⟩
theorem ks_no_such_grade : PyData.strOk s_no_such_grade = true := by decide +kernel
def s_a : Str := ⟨#[97]⟩
theorem ks_a : PyData.strOk s_a = true := by decide +kernel
def s_b : Str := ⟨#[98]⟩
theorem ks_b : PyData.strOk s_b = true := by decide +kernel
def s_y : Str := ⟨#[121]⟩
theorem ks_y : PyData.strOk s_y = true := by decide +kernel
def s_no_scale : Str := ⟨#[110, 111, 32, 115, 99, 97, 108, 101]⟩
theorem ks_no_scale : PyData.strOk s_no_scale = true := by decide +kernel
def s_as_many_images_as_grades_are_n : Str := ⟨#[97, 115, 32, 109, 97, 110, 121, 32, 105, 109, 97, 103, 101, 115, 32, 97, 115, 32, 103, 114, 97, 100, 101, 115, 32, 97, 114, 101, 32, 110, 101, 101, 100, 101, 100]⟩
theorem ks_as_many_images_as_grades_are_n : PyData.strOk s_as_many_images_as_grades_are_n = true := by decide +kernel
def s_no_table : Str := ⟨#[110, 111, 32, 116, 97, 98, 108, 101]⟩
theorem ks_no_table : PyData.strOk s_no_table = true := by decide +kernel
def s_no_paper : Str := ⟨#[110, 111, 32, 112, 97, 112, 101, 114]⟩
theorem ks_no_paper : PyData.strOk s_no_paper = true := by decide +kernel
def s_each_state_stands_in_one_block : Str := ⟨#[101, 97, 99, 104, 32, 115, 116, 97, 116, 101, 32, 115, 116, 97, 110, 100, 115, 32, 105, 110, 32, 111, 110, 101, 32, 98, 108, 111, 99, 107, 44, 32, 111, 110, 99, 101]⟩
theorem ks_each_state_stands_in_one_block : PyData.strOk s_each_state_stands_in_one_block = true := by decide +kernel
def s_this_turn_cannot_be_done : Str := ⟨#[116, 104, 105, 115, 32, 116, 117, 114, 110, 32, 99, 97, 110, 110, 111, 116, 32, 98, 101, 32, 100, 111, 110, 101]⟩
theorem ks_this_turn_cannot_be_done : PyData.strOk s_this_turn_cannot_be_done = true := by decide +kernel
def s_no_deed : Str := ⟨#[110, 111, 32, 100, 101, 101, 100]⟩
theorem ks_no_deed : PyData.strOk s_no_deed = true := by decide +kernel
def s_the_scales_are_not_the_same : Str := ⟨#[116, 104, 101, 32, 115, 99, 97, 108, 101, 115, 32, 97, 114, 101, 32, 110, 111, 116, 32, 116, 104, 101, 32, 115, 97, 109, 101]⟩
theorem ks_the_scales_are_not_the_same : PyData.strOk s_the_scales_are_not_the_same = true := by decide +kernel
def s_the_kinds_are_not_the_same : Str := ⟨#[116, 104, 101, 32, 107, 105, 110, 100, 115, 32, 97, 114, 101, 32, 110, 111, 116, 32, 116, 104, 101, 32, 115, 97, 109, 101]⟩
theorem ks_the_kinds_are_not_the_same : PyData.strOk s_the_kinds_are_not_the_same = true := by decide +kernel
def s_more_than_the_bound : Str := ⟨#[109, 111, 114, 101, 32, 116, 104, 97, 110, 32, 116, 104, 101, 32, 98, 111, 117, 110, 100]⟩
theorem ks_more_than_the_bound : PyData.strOk s_more_than_the_bound = true := by decide +kernel
def s_there_is_nothing_to_take_back : Str := ⟨#[116, 104, 101, 114, 101, 32, 105, 115, 32, 110, 111, 116, 104, 105, 110, 103, 32, 116, 111, 32, 116, 97, 107, 101, 32, 98, 97, 99, 107]⟩
theorem ks_there_is_nothing_to_take_back : PyData.strOk s_there_is_nothing_to_take_back = true := by decide +kernel
def s_the_map_does_not_keep_the_ : Str := ⟨#[116, 104, 101, 32, 109, 97, 112, 32, 100, 111, 101, 115, 32, 110, 111, 116, 32, 107, 101, 101, 112, 32, 116, 104, 101, 32]⟩
theorem ks_the_map_does_not_keep_the_ : PyData.strOk s_the_map_does_not_keep_the_ = true := by decide +kernel
def s_not_near_enough_for_one_block : Str := ⟨#[110, 111, 116, 32, 110, 101, 97, 114, 32, 101, 110, 111, 117, 103, 104, 32, 102, 111, 114, 32, 111, 110, 101, 32, 98, 108, 111, 99, 107]⟩
theorem ks_not_near_enough_for_one_block : PyData.strOk s_not_near_enough_for_one_block = true := by decide +kernel
def s_nearer_by_way_of_another_name : Str := ⟨#[110, 101, 97, 114, 101, 114, 32, 98, 121, 32, 119, 97, 121, 32, 111, 102, 32, 97, 110, 111, 116, 104, 101, 114, 32, 110, 97, 109, 101]⟩
theorem ks_nearer_by_way_of_another_name : PyData.strOk s_nearer_by_way_of_another_name = true := by decide +kernel
def s_not_nearest_to_itself__ : Str := ⟨#[110, 111, 116, 32, 110, 101, 97, 114, 101, 115, 116, 32, 116, 111, 32, 105, 116, 115, 101, 108, 102, 58, 32]⟩
theorem ks_not_nearest_to_itself__ : PyData.strOk s_not_nearest_to_itself__ = true := by decide +kernel
def s_another_grade_twice__ : Str := ⟨#[97, 110, 111, 116, 104, 101, 114, 32, 103, 114, 97, 100, 101, 32, 116, 119, 105, 99, 101, 58, 32]⟩
theorem ks_another_grade_twice__ : PyData.strOk s_another_grade_twice__ = true := by decide +kernel
def s_no_step_for_ : Str := ⟨#[110, 111, 32, 115, 116, 101, 112, 32, 102, 111, 114, 32]⟩
theorem ks_no_step_for_ : PyData.strOk s_no_step_for_ = true := by decide +kernel
def s_met_and_not_told__ : Str := ⟨#[109, 101, 116, 32, 97, 110, 100, 32, 110, 111, 116, 32, 116, 111, 108, 100, 58, 32]⟩
theorem ks_met_and_not_told__ : PyData.strOk s_met_and_not_told__ = true := by decide +kernel
def s_no_word__ : Str := ⟨#[110, 111, 32, 119, 111, 114, 100, 58, 32]⟩
theorem ks_no_word__ : PyData.strOk s_no_word__ = true := by decide +kernel
def s_told_already__ : Str := ⟨#[116, 111, 108, 100, 32, 97, 108, 114, 101, 97, 100, 121, 58, 32]⟩
theorem ks_told_already__ : PyData.strOk s_told_already__ = true := by decide +kernel
def s_no_kind : Str := ⟨#[110, 111, 32, 107, 105, 110, 100]⟩
theorem ks_no_kind : PyData.strOk s_no_kind = true := by decide +kernel
def s_no_value_of_the_kind : Str := ⟨#[110, 111, 32, 118, 97, 108, 117, 101, 32, 111, 102, 32, 116, 104, 101, 32, 107, 105, 110, 100]⟩
theorem ks_no_value_of_the_kind : PyData.strOk s_no_value_of_the_kind = true := by decide +kernel
def s_no_saying : Str := ⟨#[110, 111, 32, 115, 97, 121, 105, 110, 103]⟩
theorem ks_no_saying : PyData.strOk s_no_saying = true := by decide +kernel
def s_the_text_cannot_go_on_like_thi : Str := ⟨#[116, 104, 101, 32, 116, 101, 120, 116, 32, 99, 97, 110, 110, 111, 116, 32, 103, 111, 32, 111, 110, 32, 108, 105, 107, 101, 32, 116, 104, 105, 115, 32, 97, 116, 32]⟩
theorem ks_the_text_cannot_go_on_like_thi : PyData.strOk s_the_text_cannot_go_on_like_thi = true := by decide +kernel
def s_both_sides_changed_the_same_to : Str := ⟨#[98, 111, 116, 104, 32, 115, 105, 100, 101, 115, 32, 99, 104, 97, 110, 103, 101, 100, 32, 116, 104, 101, 32, 115, 97, 109, 101, 32, 116, 111, 32, 117, 110, 108, 105, 107, 101, 32, 111, 110, 101, 115]⟩
theorem ks_both_sides_changed_the_same_to : PyData.strOk s_both_sides_changed_the_same_to = true := by decide +kernel
def s_no_grade_ : Str := ⟨#[110, 111, 32, 103, 114, 97, 100, 101, 32]⟩
theorem ks_no_grade_ : PyData.strOk s_no_grade_ = true := by decide +kernel
def s_no_name_ : Str := ⟨#[110, 111, 32, 110, 97, 109, 101, 32]⟩
theorem ks_no_name_ : PyData.strOk s_no_name_ = true := by decide +kernel
def s_no_state_ : Str := ⟨#[110, 111, 32, 115, 116, 97, 116, 101, 32]⟩
theorem ks_no_state_ : PyData.strOk s_no_state_ = true := by decide +kernel
def s_not_told__ : Str := ⟨#[110, 111, 116, 32, 116, 111, 108, 100, 58, 32]⟩
theorem ks_not_told__ : PyData.strOk s_not_told__ = true := by decide +kernel
def s_no_number_ : Str := ⟨#[110, 111, 32, 110, 117, 109, 98, 101, 114, 32]⟩
theorem ks_no_number_ : PyData.strOk s_no_number_ = true := by decide +kernel
def b0 : Fb := ⟨1, 1, [(.ret (some (.lst [(.blt .list [(.slc (.var 0) none (some (.cst (.int 60))))]), (.cst (.int 0)), (.cst (.int 0))])))]⟩
def b1 : Fb := ⟨6, 1, [(.asg (.nm 1) (.idx (.var 0) (.cst (.int 1)))), (.asg (.ix (.var 0) (.cst (.int 1))) (.bin .Add (.var 1) (.cst (.int 1)))), (.asg (.nm 2) (.bin .Add (.bin .Mult (.var 1) (.cst (.int 1051))) (.cst (.int 53)))), (.ife (.cmp .NotEq (.idx (.var 0) (.cst (.int 0))) (.lst [])) [(.asg (.nm 2) (.idx (.idx (.var 0) (.cst (.int 0))) (.bin .Mod (.blt .int [(.var 1)]) (.blt .len [(.idx (.var 0) (.cst (.int 0)))]))))] []), (.ife (.and (.cmp .Lt (.var 1) (.blt .len [(.idx (.var 0) (.cst (.int 0)))])) (.cmp .GtE (.var 2) (.bin .Pow (.cst (.int 10)) (.cst (.int 18))))) [(.ret (some (.var 2)))] []), (.asg (.nm 3) (.bin .Mod (.blt .int [(.bin .Add (.bin .Add (.bin .Mod (.blt .int [(.var 2)]) (.cst (.int 2147483587))) (.bin .Mult (.var 1) (.cst (.int 30103)))) (.cst (.int 79)))]) (.cst (.int 2147483587)))), (.asg (.nm 4) (.bin .Mod (.blt .int [(.bin .Add (.bin .Add (.bin .Mult (.var 3) (.var 3)) (.bin .Mult (.var 1) (.cst (.int 70039)))) (.cst (.int 61)))]) (.cst (.int 2147483563)))), (.asg (.nm 5) (.bin .Mod (.blt .int [(.bin .Add (.bin .Add (.bin .Mult (.var 4) (.var 4)) (.var 3)) (.bin .Mult (.bin .Mult (.var 1) (.var 1)) (.cst (.int 37))))]) (.cst (.int 2147483549)))), (.ret (some (.bin .Add (.bin .Mult (.bin .Add (.bin .Mult (.var 5) (.cst (.int 2147483587))) (.var 4)) (.cst (.int 2147483563))) (.var 3))))]⟩
def b2 : Fb := ⟨3, 2, [(.ife (.cmp .Lt (.idx (.var 0) (.cst (.int 2))) (.var 1)) [(.asg (.ix (.var 0) (.cst (.int 2))) (.call 1 [(.var 0)]))] []), (.asg (.nm 2) (.bin .Mod (.blt .int [(.idx (.var 0) (.cst (.int 2)))]) (.var 1))), (.asg (.ix (.var 0) (.cst (.int 2))) (.bin .FloorDiv (.idx (.var 0) (.cst (.int 2))) (.var 1))), (.ret (some (.var 2)))]⟩
def b3 : Fb := ⟨2, 1, [(.asg (.nm 1) (.lst [(.isi (.var 0) false [(.c 2)]), (.isi (.var 0) false [(.c 3)]), (.isi (.var 0) false [(.c 4)])])), (.asg (.nm 1) (.bin .Add (.var 1) (.lst [(.isi (.var 0) false [(.c 5)]), (.isi (.var 0) false [(.c 6)]), (.isi (.var 0) false [(.c 7)])]))), (.asg (.nm 1) (.bin .Add (.var 1) (.lst [(.isi (.var 0) false [(.c 8)]), (.isi (.var 0) false [(.c 9)]), (.isi (.var 0) false [(.c 10)])]))), (.asg (.nm 1) (.bin .Add (.var 1) (.lst [(.isi (.var 0) false [(.c 11)]), (.isi (.var 0) false [(.c 12)])]))), (.asg (.nm 1) (.bin .Add (.var 1) (.lst [(.isi (.var 0) false [(.c 13)]), (.isi (.var 0) false [(.c 15)]), (.isi (.var 0) false [(.c 14)])]))), (.asg (.nm 1) (.bin .Add (.var 1) (.lst [(.isi (.var 0) false [(.c 16)]), (.isi (.var 0) false [(.c 17)])]))), (.asg (.nm 1) (.bin .Add (.var 1) (.lst [(.isi (.var 0) false [(.c 18)]), (.isi (.var 0) false [(.c 19)]), (.isi (.var 0) false [(.c 20)])]))), (.asg (.nm 1) (.bin .Add (.var 1) (.lst [(.isi (.var 0) false [(.c 21)]), (.isi (.var 0) false [(.c 22)]), (.isi (.var 0) false [(.c 23)])]))), (.asg (.nm 1) (.bin .Add (.var 1) (.lst [(.isi (.var 0) false [(.c 24)]), (.isi (.var 0) false [(.c 25)]), (.isi (.var 0) false [(.c 26)])]))), (.asg (.nm 1) (.bin .Add (.var 1) (.lst [(.isi (.var 0) false [(.c 27)]), (.isi (.var 0) false [(.c 28)]), (.isi (.var 0) false [(.c 29)])]))), (.asg (.nm 1) (.bin .Add (.var 1) (.lst [(.isi (.var 0) false [(.c 30)]), (.isi (.var 0) false [(.c 31)])]))), (.ret (some (.var 1)))]⟩
def b4 : Fb := ⟨2, 1, [(.asg (.nm 1) (.lst [(.isi (.var 0) false [(.c 0)]), (.isi (.var 0) false [(.b .verr)])])), (.ret (some (.bin .Add (.var 1) (.lst [(.isi (.var 0) false [(.c 1)]), (.isi (.var 0) false [(.b .lerr)])]))))]⟩
def b5 : Fb := ⟨1, 0, [(.asg (.nm 0) (.lst [(.xmk 2 []), (.xmk 3 []), (.xmk 4 []), (.xmk 5 []), (.xmk 6 []), (.xmk 7 [])])), (.ret (some (.bin .Add (.var 0) (.lst [(.xmk 8 []), (.xmk 9 []), (.xmk 10 []), (.xmk 11 []), (.xmk 12 [])]))))]⟩
def b6 : Fb := ⟨3, 2, [(.asg (.nm 2) (.lst [(.xmk 13 [(.var 0), (.var 1)]), (.xmk 15 [(.var 1)]), (.xmk 14 [(.var 1)]), (.xmk 16 [(.var 0)]), (.xmk 17 [(.var 0)])])), (.asg (.nm 2) (.bin .Add (.var 2) (.lst [(.xmk 18 [(.var 0)]), (.xmk 19 [(.var 0)]), (.xmk 20 [(.var 0)]), (.xmk 21 [(.var 0)])]))), (.ret (some (.bin .Add (.var 2) (.lst [(.xmk 22 [(.var 1)]), (.xmk 23 [(.var 1)]), (.xmk 24 [(.var 1)])]))))]⟩
def b7 : Fb := ⟨6, 3, [(.asg (.nm 3) (.call 6 [(.var 0), (.var 2)])), (.ife (.cmp .NotEq (.blt .repr [(.tup [(.attr (.idx (.var 3) (.cst (.int 0))) 0), (.attr (.idx (.var 3) (.cst (.int 0))) 1)])]) (.blt .repr [(.tup [(.var 0), (.blt .tuple [(.var 2)])])])) [(.ret (some (.cst (.bl false))))] []), (.ife (.cmp .NotEq (.blt .repr [(.lst [(.attr (.idx (.var 3) (.cst (.int 1))) 1), (.attr (.idx (.var 3) (.cst (.int 2))) 1), (.attr (.xmk 26 [(.var 2)]) 5)])]) (.blt .repr [(.bin .Mult (.lst [(.blt .tuple [(.var 2)])]) (.cst (.int 3)))])) [(.ret (some (.cst (.bl false))))] []), (.for_ (.nm 4) (.rng (some (.cst (.int 3))) (.cst (.int 9))) [(.ife (.cmp .NotEq (.blt .repr [(.attr (.idx (.var 3) (.var 4)) 2)]) (.blt .repr [(.var 0)])) [(.ret (some (.cst (.bl false))))] [])]), (.for_ (.nm 4) (.rng (some (.cst (.int 9))) (.cst (.int 12))) [(.ife (.cmp .NotEq (.blt .repr [(.attr (.idx (.var 3) (.var 4)) 3)]) (.blt .repr [(.blt .tuple [(.var 2)])])) [(.ret (some (.cst (.bl false))))] [])]), (.asg (.nm 5) (.lst [(.attr (.xmk 27 [(.var 0)]) 2), (.attr (.xmk 28 [(.var 0)]) 2), (.attr (.xmk 29 [(.var 0)]) 2), (.attr (.xmk 30 [(.var 0)]) 2)])), (.asg (.nm 3) (.lst [(.attr (.xmk 25 [(.tup [(.var 1), (.cst (.int 0))])]) 4), (.attr (.xmk 31 [(.var 1)]) 6)])), (.ret (some (.cmp .Eq (.blt .repr [(.bin .Add (.var 3) (.var 5))]) (.blt .repr [(.bin .Add (.lst [(.tup [(.var 1), (.cst (.int 0))]), (.var 1)]) (.bin .Mult (.lst [(.var 0)]) (.cst (.int 4))))]))))]⟩
def b8 : Fb := ⟨9, 1, [(.asg (.nm 1) (.call 0 [(.var 0)])), (.for_ (.nm 2) (.rng none (.cst (.int 2))) [(.asg (.nm 3) (.idx (.lst [(.cst (.str s_E)), (.cst (.str s_x)), (.cst (.str s_no_such_grade)), (.cst .non), (.bin .Mult (.cst (.str s_x)) (.cst (.int 100))), (.tup [(.cst (.str s_a))]), (.cst (.int 0))]) (.call 2 [(.var 1), (.cst (.int 7))]))), (.asg (.nm 4) (.idx (.lst [(.cst (.int 0)), (.cst (.int 1)), (.cst (.int 7)), (.cst (.int 200)), (.bin .Pow (.cst (.int 10)) (.cst (.int 30)))]) (.call 2 [(.var 1), (.cst (.int 5))]))), (.asg (.nm 5) (.idx (.lst [(.lst [(.cst (.str s_a)), (.cst (.str s_b))]), (.lst []), (.tup [(.cst (.str s_a))]), (.lst [(.cst (.int 0)), (.cst (.int 1)), (.cst (.int 0))]), (.tup [(.tup [(.cst (.str s_x)), (.cst (.str s_y))])])]) (.call 2 [(.var 1), (.cst (.int 5))]))), (.asg (.nm 6) (.bin .Add (.bin .Add (.call 5 []) (.call 6 [(.var 3), (.var 5)])) (.lst [(.xmk 25 [(.var 4)]), (.xmk 26 [(.var 5)]), (.xmk 27 [(.var 3)])]))), (.asg (.nm 6) (.bin .Add (.var 6) (.lst [(.xmk 28 [(.var 3)]), (.xmk 29 [(.var 3)]), (.xmk 30 [(.var 3)]), (.xmk 31 [(.var 4)])]))), (.for_ (.nm 7) (.rng none (.blt .len [(.var 6)])) [(.ife (.cmp .NotEq (.call 3 [(.idx (.var 6) (.var 7))]) (.lc (.cmp .Eq (.var 8) (.var 7)) (.nm 8) (.rng none (.blt .len [(.var 6)])) [] [8])) [(.ret (some (.cst (.bl false))))] []), (.ife (.cmp .NotEq (.call 4 [(.idx (.var 6) (.var 7))]) (.lst [(.cmp .Lt (.var 7) (.cst (.int 25))), (.cmp .Lt (.var 7) (.cst (.int 25))), (.cmp .GtE (.var 7) (.cst (.int 25))), (.cmp .GtE (.var 7) (.cst (.int 25)))])) [(.ret (some (.cst (.bl false))))] [])]), (.ife (.or (.cmp .NotEq (.blt .len [(.var 6)]) (.cst (.int 30))) (.not (.call 7 [(.var 3), (.var 4), (.var 5)]))) [(.ret (some (.cst (.bl false))))] [])]), (.ret (some (.cst (.bl true))))]⟩
def b9 : Fb := ⟨1, 1, [(.expr (.xsup 2 [(.cst (.str s_no_scale))]))]⟩
def b10 : Fb := ⟨1, 1, [(.expr (.xsup 3 [(.cst (.str s_as_many_images_as_grades_are_n))]))]⟩
def b11 : Fb := ⟨1, 1, [(.expr (.xsup 4 [(.cst (.str s_no_table))]))]⟩
def b12 : Fb := ⟨1, 1, [(.expr (.xsup 5 [(.cst (.str s_no_paper))]))]⟩
def b13 : Fb := ⟨1, 1, [(.expr (.xsup 6 [(.cst (.str s_each_state_stands_in_one_block))]))]⟩
def b14 : Fb := ⟨1, 1, [(.expr (.xsup 7 [(.cst (.str s_this_turn_cannot_be_done))]))]⟩
def b15 : Fb := ⟨1, 1, [(.expr (.xsup 8 [(.cst (.str s_no_deed))]))]⟩
def b16 : Fb := ⟨1, 1, [(.expr (.xsup 9 [(.cst (.str s_the_scales_are_not_the_same))]))]⟩
def b17 : Fb := ⟨1, 1, [(.expr (.xsup 10 [(.cst (.str s_the_kinds_are_not_the_same))]))]⟩
def b18 : Fb := ⟨1, 1, [(.expr (.xsup 11 [(.cst (.str s_more_than_the_bound))]))]⟩
def b19 : Fb := ⟨1, 1, [(.expr (.xsup 12 [(.cst (.str s_there_is_nothing_to_take_back))]))]⟩
def b20 : Fb := ⟨3, 3, [(.expr (.xsup 13 [(.jn [(.cst (.str s_the_map_does_not_keep_the_)), (.fmt false (.var 1))])])), (.asg (.fld (.var 0) 0) (.var 1)), (.asg (.fld (.var 0) 1) (.blt .tuple [(.var 2)]))]⟩
def b21 : Fb := ⟨2, 2, [(.expr (.xsup 14 [(.cst (.str s_not_near_enough_for_one_block))])), (.asg (.fld (.var 0) 1) (.blt .tuple [(.var 1)]))]⟩
def b22 : Fb := ⟨2, 2, [(.expr (.xsup 15 [(.cst (.str s_nearer_by_way_of_another_name))])), (.asg (.fld (.var 0) 1) (.blt .tuple [(.var 1)]))]⟩
def b23 : Fb := ⟨2, 2, [(.expr (.xsup 16 [(.jn [(.cst (.str s_not_nearest_to_itself__)), (.fmt true (.var 1))])])), (.asg (.fld (.var 0) 2) (.var 1))]⟩
def b24 : Fb := ⟨2, 2, [(.expr (.xsup 17 [(.jn [(.cst (.str s_another_grade_twice__)), (.fmt true (.var 1))])])), (.asg (.fld (.var 0) 2) (.var 1))]⟩
def b25 : Fb := ⟨2, 2, [(.expr (.xsup 18 [(.jn [(.cst (.str s_no_step_for_)), (.fmt true (.var 1))])])), (.asg (.fld (.var 0) 2) (.var 1))]⟩
def b26 : Fb := ⟨2, 2, [(.expr (.xsup 19 [(.jn [(.cst (.str s_met_and_not_told__)), (.fmt true (.var 1))])])), (.asg (.fld (.var 0) 2) (.var 1))]⟩
def b27 : Fb := ⟨2, 2, [(.expr (.xsup 20 [(.jn [(.cst (.str s_no_word__)), (.fmt true (.var 1))])])), (.asg (.fld (.var 0) 2) (.var 1))]⟩
def b28 : Fb := ⟨2, 2, [(.expr (.xsup 21 [(.jn [(.cst (.str s_told_already__)), (.fmt true (.var 1))])])), (.asg (.fld (.var 0) 2) (.var 1))]⟩
def b29 : Fb := ⟨2, 2, [(.expr (.xsup 22 [(.cst (.str s_no_kind))])), (.asg (.fld (.var 0) 3) (.blt .tuple [(.var 1)]))]⟩
def b30 : Fb := ⟨2, 2, [(.expr (.xsup 23 [(.cst (.str s_no_value_of_the_kind))])), (.asg (.fld (.var 0) 3) (.blt .tuple [(.var 1)]))]⟩
def b31 : Fb := ⟨2, 2, [(.expr (.xsup 24 [(.cst (.str s_no_saying))])), (.asg (.fld (.var 0) 3) (.blt .tuple [(.var 1)]))]⟩
def b32 : Fb := ⟨2, 2, [(.expr (.xsup 25 [(.jn [(.cst (.str s_the_text_cannot_go_on_like_thi)), (.fmt false (.var 1))])])), (.asg (.fld (.var 0) 4) (.var 1))]⟩
def b33 : Fb := ⟨2, 2, [(.expr (.xsup 26 [(.cst (.str s_both_sides_changed_the_same_to))])), (.asg (.fld (.var 0) 5) (.blt .tuple [(.var 1)]))]⟩
def b34 : Fb := ⟨2, 2, [(.expr (.xsup 27 [(.jn [(.cst (.str s_no_grade_)), (.fmt true (.var 1))])])), (.asg (.fld (.var 0) 2) (.var 1))]⟩
def b35 : Fb := ⟨2, 2, [(.expr (.xsup 28 [(.jn [(.cst (.str s_no_name_)), (.fmt true (.var 1))])])), (.asg (.fld (.var 0) 2) (.var 1))]⟩
def b36 : Fb := ⟨2, 2, [(.expr (.xsup 29 [(.jn [(.cst (.str s_no_state_)), (.fmt true (.var 1))])])), (.asg (.fld (.var 0) 2) (.var 1))]⟩
def b37 : Fb := ⟨2, 2, [(.expr (.xsup 30 [(.jn [(.cst (.str s_not_told__)), (.fmt true (.var 1))])])), (.asg (.fld (.var 0) 2) (.var 1))]⟩
def b38 : Fb := ⟨2, 2, [(.expr (.xsup 31 [(.jn [(.cst (.str s_no_number_)), (.fmt true (.var 1))])])), (.asg (.fld (.var 0) 6) (.var 1))]⟩
def fbs : List Fb := [b0, b1, b2, b3, b4, b5, b6, b7, b8, b9, b10, b11, b12, b13, b14, b15, b16, b17, b18, b19, b20, b21, b22, b23, b24, b25, b26, b27, b28, b29, b30, b31, b32, b33, b34, b35, b36, b37, b38]
theorem f0 : fbs[0]? = some b0 := rfl
theorem f1 : fbs[1]? = some b1 := rfl
theorem f2 : fbs[2]? = some b2 := rfl
theorem f3 : fbs[3]? = some b3 := rfl
theorem f4 : fbs[4]? = some b4 := rfl
theorem f5 : fbs[5]? = some b5 := rfl
theorem f6 : fbs[6]? = some b6 := rfl
theorem f7 : fbs[7]? = some b7 := rfl
theorem f8 : fbs[8]? = some b8 := rfl
theorem f9 : fbs[9]? = some b9 := rfl
theorem f10 : fbs[10]? = some b10 := rfl
theorem f11 : fbs[11]? = some b11 := rfl
theorem f12 : fbs[12]? = some b12 := rfl
theorem f13 : fbs[13]? = some b13 := rfl
theorem f14 : fbs[14]? = some b14 := rfl
theorem f15 : fbs[15]? = some b15 := rfl
theorem f16 : fbs[16]? = some b16 := rfl
theorem f17 : fbs[17]? = some b17 := rfl
theorem f18 : fbs[18]? = some b18 := rfl
theorem f19 : fbs[19]? = some b19 := rfl
theorem f20 : fbs[20]? = some b20 := rfl
theorem f21 : fbs[21]? = some b21 := rfl
theorem f22 : fbs[22]? = some b22 := rfl
theorem f23 : fbs[23]? = some b23 := rfl
theorem f24 : fbs[24]? = some b24 := rfl
theorem f25 : fbs[25]? = some b25 := rfl
theorem f26 : fbs[26]? = some b26 := rfl
theorem f27 : fbs[27]? = some b27 := rfl
theorem f28 : fbs[28]? = some b28 := rfl
theorem f29 : fbs[29]? = some b29 := rfl
theorem f30 : fbs[30]? = some b30 := rfl
theorem f31 : fbs[31]? = some b31 := rfl
theorem f32 : fbs[32]? = some b32 := rfl
theorem f33 : fbs[33]? = some b33 := rfl
theorem f34 : fbs[34]? = some b34 := rfl
theorem f35 : fbs[35]? = some b35 := rfl
theorem f36 : fbs[36]? = some b36 := rfl
theorem f37 : fbs[37]? = some b37 := rfl
theorem f38 : fbs[38]? = some b38 := rfl
theorem fbs_eq : fbs = (us.map fun u => u.fb G) ++ vs.map fun u => u.fb G := by kernel_rfl
end La

namespace La
open PySem PySem.Spec PyProof.Rows L2 Ab
/-- the pen -/
structure Pen (S : Hs) (r c : Nat) (n : Nat) : Prop where
  ex : ∃ (cells : List Int) (i : Nat) (v : Int), S.get r = some (.lst [.ref c, .int i, .int v]) ∧ S.get c = some (.lst (cells.map .int)) ∧ i ≤ n ∧ 0 ≤ v ∧ cells.length ≤ 60
  ne : r ≠ c
theorem next_ok {d : Nat} {S : Hs} {r c n : Nat} {Q : AV → Hs → Prop} (hp : Pen S r c n) (hn : n < 2 ^ 60) (q : ∀ (S' : Hs) (v : Int), Pen S' r c (n + 1) → Fr (· = r) S S' → 0 ≤ v → Q (.int v) S') : W (callN G fbs (d + 1) 1 [.ref r] S) Q := by
  obtain ⟨⟨cells, i, v, h1, h2, h3, h4, h5⟩, hne⟩ := hp
  refine W_call f1 rfl (by decide) rfl ?_
  unfold b1
  have hr := Hs.lt_of_get h1
  have hc := Hs.lt_of_get h2
  have m1 : ∀ (S : Hs) (k : Int), binA .Mult (.int i) (.int k) S = .ok (.int (i * k)) S := fun S k => Ab.mul_int _ _ (by unfold mulOk; exact decide_eq_true (.inl (by omega)))
  (try simp only [ok_bind, bad_bind, ok_st, nx_seq, rt_seq, bk_seq, ct_seq, nx_turn, ct_turn, bk_turn, rt_turn, ok_nox, exs_nil, exs_cons, slot_z, slot_s, ev_cst, ev_var, ev_gf, ev_gk, ev_gc, ev_bin, negA_int, ev_neg, tst_bl, ev_not, ev_and, ev_or, ev_ite, ev_cmp, ev_cmp2, rb_some, ch2_t, ch2_f, ev_tup, ev_lst, ev_idx, ev_slc, ev_attr, ev_call, ev_blt, ev_isi, ev_isiE, ev_xmk, ev_make, ev_meth, evL_nil, evL_cons, evS_nil, evS_star, evS_one, evO_none, evO_some, optA_int, ex_asg, ex_expr, ex_ife, ex_for, ex_whl, ex_ret0, ex_ret, ex_pass, ex_brk, ex_cnt, putS_z, putS_s, asg_nm, asg_tp, asgL_nil, asgL_cons, asg_fld, asg_ix, endF_nx, endF_rt, iS_cst, iS_var, iS_gc, iS_gf, iS_gk, iS_bin, iS_neg, iS_not, iS_and, iS_or, iS_ite, iS_cmp, iS_cmp2, iS_tup, iS_lst, iS_dct, iS_idx, iS_slc, iS_attr, iS_call, iS_make, iS_blt, iS_isi, iS_meth, iS_lc, cnd_t, cnd_f, envO_z, envO_n, envO_c, ofO_some, idxI_l, idxI_k, idx_ri, idxS_d, idx_rs, idx_ti, fldO_i, fld_r, eq_d, ne_d, lt_d, le_d, gt_d, ge_d, is_d, isnot_d, in_d, notin_d, map_some, eqA_int, eqA_bl, len_tup, lenO_l, lenO_k, lenO_d, len_ref, Ab.int_int, Ab.add_int, Ab.sub_int, max_int, min_int, setI_ri, Bool.not_true, Bool.not_false, W_ok, W_bad, WS_fl, W_bind, WS_st, sq_nx, sq_rt, sq_bk, sq_ct, WS_seq, en_nx, en_rt, W_end, tn_nx, tn_ct, tn_bk, tn_rt, atI0, atI1, atI2, atI3, W_ofO, setO_0, setO_1, setO_2, get_set_s, get_set_n, get_push_lt, lt_push, lt_set, ne_push, push_n', set_n', get_push_self, mulR, Ab.mod_int, Int.reduceLT, Int.reduceNeg, Int.reduceEq, lstA_ok, tupA_ok, lcE_ok, wipeA, List.set_cons_zero, List.set_cons_succ, ev_lc, ev_lc2, ev_dc, dcE_ok, ev_sup, src_e, src_r, src_en, srcV_t, srcV_s, srcV_r, srcO_l, rngV_n, list_r, list_t, tuple_r, tuple_t, seqO_l, seqO_k, listO_s, tupO_s, List.length_cons, List.length_nil, Nat.reduceAdd, Nat.reduceLeDiff, ne_eq, not_false_eq_true, Option.some.injEq, exists_eq_left', h1, h2, hr, hc, hne, Ne.symm hne, m1])
  rw [eqA_intsNil (l := cells)]
  rotate_left
  · (try simp only [ok_bind, bad_bind, ok_st, nx_seq, rt_seq, bk_seq, ct_seq, nx_turn, ct_turn, bk_turn, rt_turn, ok_nox, exs_nil, exs_cons, slot_z, slot_s, ev_cst, ev_var, ev_gf, ev_gk, ev_gc, ev_bin, negA_int, ev_neg, tst_bl, ev_not, ev_and, ev_or, ev_ite, ev_cmp, ev_cmp2, rb_some, ch2_t, ch2_f, ev_tup, ev_lst, ev_idx, ev_slc, ev_attr, ev_call, ev_blt, ev_isi, ev_isiE, ev_xmk, ev_make, ev_meth, evL_nil, evL_cons, evS_nil, evS_star, evS_one, evO_none, evO_some, optA_int, ex_asg, ex_expr, ex_ife, ex_for, ex_whl, ex_ret0, ex_ret, ex_pass, ex_brk, ex_cnt, putS_z, putS_s, asg_nm, asg_tp, asgL_nil, asgL_cons, asg_fld, asg_ix, endF_nx, endF_rt, iS_cst, iS_var, iS_gc, iS_gf, iS_gk, iS_bin, iS_neg, iS_not, iS_and, iS_or, iS_ite, iS_cmp, iS_cmp2, iS_tup, iS_lst, iS_dct, iS_idx, iS_slc, iS_attr, iS_call, iS_make, iS_blt, iS_isi, iS_meth, iS_lc, cnd_t, cnd_f, envO_z, envO_n, envO_c, ofO_some, idxI_l, idxI_k, idx_ri, idxS_d, idx_rs, idx_ti, fldO_i, fld_r, eq_d, ne_d, lt_d, le_d, gt_d, ge_d, is_d, isnot_d, in_d, notin_d, map_some, eqA_int, eqA_bl, len_tup, lenO_l, lenO_k, lenO_d, len_ref, Ab.int_int, Ab.add_int, Ab.sub_int, max_int, min_int, setI_ri, Bool.not_true, Bool.not_false, W_ok, W_bad, WS_fl, W_bind, WS_st, sq_nx, sq_rt, sq_bk, sq_ct, WS_seq, en_nx, en_rt, W_end, tn_nx, tn_ct, tn_bk, tn_rt, atI0, atI1, atI2, atI3, W_ofO, setO_0, setO_1, setO_2, get_set_s, get_set_n, get_push_lt, lt_push, lt_set, ne_push, push_n', set_n', get_push_self, mulR, Ab.mod_int, Int.reduceLT, Int.reduceNeg, Int.reduceEq, lstA_ok, tupA_ok, lcE_ok, wipeA, List.set_cons_zero, List.set_cons_succ, ev_lc, ev_lc2, ev_dc, dcE_ok, ev_sup, src_e, src_r, src_en, srcV_t, srcV_s, srcV_r, srcO_l, rngV_n, list_r, list_t, tuple_r, tuple_t, seqO_l, seqO_k, listO_s, tupO_s, List.length_cons, List.length_nil, Nat.reduceAdd, Nat.reduceLeDiff, ne_eq, not_false_eq_true, Option.some.injEq, exists_eq_left', h1, h2, hr, hc, hne, Ne.symm hne])
  · exact get_push_self _
  (try simp only [ok_bind, bad_bind, ok_st, nx_seq, rt_seq, bk_seq, ct_seq, nx_turn, ct_turn, bk_turn, rt_turn, ok_nox, exs_nil, exs_cons, slot_z, slot_s, ev_cst, ev_var, ev_gf, ev_gk, ev_gc, ev_bin, negA_int, ev_neg, tst_bl, ev_not, ev_and, ev_or, ev_ite, ev_cmp, ev_cmp2, rb_some, ch2_t, ch2_f, ev_tup, ev_lst, ev_idx, ev_slc, ev_attr, ev_call, ev_blt, ev_isi, ev_isiE, ev_xmk, ev_make, ev_meth, evL_nil, evL_cons, evS_nil, evS_star, evS_one, evO_none, evO_some, optA_int, ex_asg, ex_expr, ex_ife, ex_for, ex_whl, ex_ret0, ex_ret, ex_pass, ex_brk, ex_cnt, putS_z, putS_s, asg_nm, asg_tp, asgL_nil, asgL_cons, asg_fld, asg_ix, endF_nx, endF_rt, iS_cst, iS_var, iS_gc, iS_gf, iS_gk, iS_bin, iS_neg, iS_not, iS_and, iS_or, iS_ite, iS_cmp, iS_cmp2, iS_tup, iS_lst, iS_dct, iS_idx, iS_slc, iS_attr, iS_call, iS_make, iS_blt, iS_isi, iS_meth, iS_lc, cnd_t, cnd_f, envO_z, envO_n, envO_c, ofO_some, idxI_l, idxI_k, idx_ri, idxS_d, idx_rs, idx_ti, fldO_i, fld_r, eq_d, ne_d, lt_d, le_d, gt_d, ge_d, is_d, isnot_d, in_d, notin_d, map_some, eqA_int, eqA_bl, len_tup, lenO_l, lenO_k, lenO_d, len_ref, Ab.int_int, Ab.add_int, Ab.sub_int, max_int, min_int, setI_ri, Bool.not_true, Bool.not_false, W_ok, W_bad, WS_fl, W_bind, WS_st, sq_nx, sq_rt, sq_bk, sq_ct, WS_seq, en_nx, en_rt, W_end, tn_nx, tn_ct, tn_bk, tn_rt, atI0, atI1, atI2, atI3, W_ofO, setO_0, setO_1, setO_2, get_set_s, get_set_n, get_push_lt, lt_push, lt_set, ne_push, push_n', set_n', get_push_self, mulR, Ab.mod_int, Int.reduceLT, Int.reduceNeg, Int.reduceEq, lstA_ok, tupA_ok, lcE_ok, wipeA, List.set_cons_zero, List.set_cons_succ, ev_lc, ev_lc2, ev_dc, dcE_ok, ev_sup, src_e, src_r, src_en, srcV_t, srcV_s, srcV_r, srcO_l, rngV_n, list_r, list_t, tuple_r, tuple_t, seqO_l, seqO_k, listO_s, tupO_s, List.length_cons, List.length_nil, Nat.reduceAdd, Nat.reduceLeDiff, ne_eq, not_false_eq_true, Option.some.injEq, exists_eq_left'])
  have g1 : ((S.set r (AO.lst [AV.ref c, AV.int (↑i + 1), AV.int v])).push (AO.lst [])).get r = some (AO.lst [AV.ref c, AV.int (↑i + 1), AV.int v]) := by (try simp only [ok_bind, bad_bind, ok_st, nx_seq, rt_seq, bk_seq, ct_seq, nx_turn, ct_turn, bk_turn, rt_turn, ok_nox, exs_nil, exs_cons, slot_z, slot_s, ev_cst, ev_var, ev_gf, ev_gk, ev_gc, ev_bin, negA_int, ev_neg, tst_bl, ev_not, ev_and, ev_or, ev_ite, ev_cmp, ev_cmp2, rb_some, ch2_t, ch2_f, ev_tup, ev_lst, ev_idx, ev_slc, ev_attr, ev_call, ev_blt, ev_isi, ev_isiE, ev_xmk, ev_make, ev_meth, evL_nil, evL_cons, evS_nil, evS_star, evS_one, evO_none, evO_some, optA_int, ex_asg, ex_expr, ex_ife, ex_for, ex_whl, ex_ret0, ex_ret, ex_pass, ex_brk, ex_cnt, putS_z, putS_s, asg_nm, asg_tp, asgL_nil, asgL_cons, asg_fld, asg_ix, endF_nx, endF_rt, iS_cst, iS_var, iS_gc, iS_gf, iS_gk, iS_bin, iS_neg, iS_not, iS_and, iS_or, iS_ite, iS_cmp, iS_cmp2, iS_tup, iS_lst, iS_dct, iS_idx, iS_slc, iS_attr, iS_call, iS_make, iS_blt, iS_isi, iS_meth, iS_lc, cnd_t, cnd_f, envO_z, envO_n, envO_c, ofO_some, idxI_l, idxI_k, idx_ri, idxS_d, idx_rs, idx_ti, fldO_i, fld_r, eq_d, ne_d, lt_d, le_d, gt_d, ge_d, is_d, isnot_d, in_d, notin_d, map_some, eqA_int, eqA_bl, len_tup, lenO_l, lenO_k, lenO_d, len_ref, Ab.int_int, Ab.add_int, Ab.sub_int, max_int, min_int, setI_ri, Bool.not_true, Bool.not_false, W_ok, W_bad, WS_fl, W_bind, WS_st, sq_nx, sq_rt, sq_bk, sq_ct, WS_seq, en_nx, en_rt, W_end, tn_nx, tn_ct, tn_bk, tn_rt, atI0, atI1, atI2, atI3, W_ofO, setO_0, setO_1, setO_2, get_set_s, get_set_n, get_push_lt, lt_push, lt_set, ne_push, push_n', set_n', get_push_self, mulR, Ab.mod_int, Int.reduceLT, Int.reduceNeg, Int.reduceEq, lstA_ok, tupA_ok, lcE_ok, wipeA, List.set_cons_zero, List.set_cons_succ, ev_lc, ev_lc2, ev_dc, dcE_ok, ev_sup, src_e, src_r, src_en, srcV_t, srcV_s, srcV_r, srcO_l, rngV_n, list_r, list_t, tuple_r, tuple_t, seqO_l, seqO_k, listO_s, tupO_s, List.length_cons, List.length_nil, Nat.reduceAdd, Nat.reduceLeDiff, ne_eq, not_false_eq_true, Option.some.injEq, exists_eq_left', hr])
  have g2 : ((S.set r (AO.lst [AV.ref c, AV.int (↑i + 1), AV.int v])).push (AO.lst [])).get c = some (.lst (cells.map .int)) := by (try simp only [ok_bind, bad_bind, ok_st, nx_seq, rt_seq, bk_seq, ct_seq, nx_turn, ct_turn, bk_turn, rt_turn, ok_nox, exs_nil, exs_cons, slot_z, slot_s, ev_cst, ev_var, ev_gf, ev_gk, ev_gc, ev_bin, negA_int, ev_neg, tst_bl, ev_not, ev_and, ev_or, ev_ite, ev_cmp, ev_cmp2, rb_some, ch2_t, ch2_f, ev_tup, ev_lst, ev_idx, ev_slc, ev_attr, ev_call, ev_blt, ev_isi, ev_isiE, ev_xmk, ev_make, ev_meth, evL_nil, evL_cons, evS_nil, evS_star, evS_one, evO_none, evO_some, optA_int, ex_asg, ex_expr, ex_ife, ex_for, ex_whl, ex_ret0, ex_ret, ex_pass, ex_brk, ex_cnt, putS_z, putS_s, asg_nm, asg_tp, asgL_nil, asgL_cons, asg_fld, asg_ix, endF_nx, endF_rt, iS_cst, iS_var, iS_gc, iS_gf, iS_gk, iS_bin, iS_neg, iS_not, iS_and, iS_or, iS_ite, iS_cmp, iS_cmp2, iS_tup, iS_lst, iS_dct, iS_idx, iS_slc, iS_attr, iS_call, iS_make, iS_blt, iS_isi, iS_meth, iS_lc, cnd_t, cnd_f, envO_z, envO_n, envO_c, ofO_some, idxI_l, idxI_k, idx_ri, idxS_d, idx_rs, idx_ti, fldO_i, fld_r, eq_d, ne_d, lt_d, le_d, gt_d, ge_d, is_d, isnot_d, in_d, notin_d, map_some, eqA_int, eqA_bl, len_tup, lenO_l, lenO_k, lenO_d, len_ref, Ab.int_int, Ab.add_int, Ab.sub_int, max_int, min_int, setI_ri, Bool.not_true, Bool.not_false, W_ok, W_bad, WS_fl, W_bind, WS_st, sq_nx, sq_rt, sq_bk, sq_ct, WS_seq, en_nx, en_rt, W_end, tn_nx, tn_ct, tn_bk, tn_rt, atI0, atI1, atI2, atI3, W_ofO, setO_0, setO_1, setO_2, get_set_s, get_set_n, get_push_lt, lt_push, lt_set, ne_push, push_n', set_n', get_push_self, mulR, Ab.mod_int, Int.reduceLT, Int.reduceNeg, Int.reduceEq, lstA_ok, tupA_ok, lcE_ok, wipeA, List.set_cons_zero, List.set_cons_succ, ev_lc, ev_lc2, ev_dc, dcE_ok, ev_sup, src_e, src_r, src_en, srcV_t, srcV_s, srcV_r, srcO_l, rngV_n, list_r, list_t, tuple_r, tuple_t, seqO_l, seqO_k, listO_s, tupO_s, List.length_cons, List.length_nil, Nat.reduceAdd, Nat.reduceLeDiff, ne_eq, not_false_eq_true, Option.some.injEq, exists_eq_left', hc, hne, Ne.symm hne, h2])
  have fr : Ab.Fr (· = r) S ((S.set r (AO.lst [AV.ref c, AV.int (↑i + 1), AV.int v])).push (AO.lst [])) := (Ab.Fr.set (M := (· = r)) rfl).trans Ab.Fr.push
  generalize ((S.set r (AO.lst [AV.ref c, AV.int (↑i + 1), AV.int v])).push (AO.lst [])) = S1 at g1 g2 fr ⊢
  have pen1 : Pen S1 r c (n + 1) := ⟨⟨cells, i + 1, v, g1, g2, by omega, h4, h5⟩, hne⟩
  refine WS_mid (fun ρ S' => ∃ x : Int, ρ = [some (AV.ref r), some (AV.int ↑i), some (AV.int x), none, none, none] ∧ S' = S1) ?_ ?_
  · refine WS_if (fun h => ?_) (fun h => ?_)
    · have hl : 0 < cells.length := by
        cases cells with
        | nil => cases h
        | cons _ _ => simp
      have e1 : (i : Int).fmod (cells.length : Int) = ((i % cells.length : Nat) : Int) := by rw [Int.fmod_eq_emod_of_nonneg _ (by omega)]; rfl
      have e2 : atI (cells.map AV.int) (((i % cells.length : Nat) : Int)) = some (.int (cells[i % cells.length]'(Nat.mod_lt _ hl))) := atI_nat (by rw [List.getElem?_map, List.getElem?_eq_getElem (Nat.mod_lt _ hl)]; rfl)
      have e3 : ((cells.length : Nat) : Int) ≠ 0 := by omega
      (try simp only [ok_bind, bad_bind, ok_st, nx_seq, rt_seq, bk_seq, ct_seq, nx_turn, ct_turn, bk_turn, rt_turn, ok_nox, exs_nil, exs_cons, slot_z, slot_s, ev_cst, ev_var, ev_gf, ev_gk, ev_gc, ev_bin, negA_int, ev_neg, tst_bl, ev_not, ev_and, ev_or, ev_ite, ev_cmp, ev_cmp2, rb_some, ch2_t, ch2_f, ev_tup, ev_lst, ev_idx, ev_slc, ev_attr, ev_call, ev_blt, ev_isi, ev_isiE, ev_xmk, ev_make, ev_meth, evL_nil, evL_cons, evS_nil, evS_star, evS_one, evO_none, evO_some, optA_int, ex_asg, ex_expr, ex_ife, ex_for, ex_whl, ex_ret0, ex_ret, ex_pass, ex_brk, ex_cnt, putS_z, putS_s, asg_nm, asg_tp, asgL_nil, asgL_cons, asg_fld, asg_ix, endF_nx, endF_rt, iS_cst, iS_var, iS_gc, iS_gf, iS_gk, iS_bin, iS_neg, iS_not, iS_and, iS_or, iS_ite, iS_cmp, iS_cmp2, iS_tup, iS_lst, iS_dct, iS_idx, iS_slc, iS_attr, iS_call, iS_make, iS_blt, iS_isi, iS_meth, iS_lc, cnd_t, cnd_f, envO_z, envO_n, envO_c, ofO_some, idxI_l, idxI_k, idx_ri, idxS_d, idx_rs, idx_ti, fldO_i, fld_r, eq_d, ne_d, lt_d, le_d, gt_d, ge_d, is_d, isnot_d, in_d, notin_d, map_some, eqA_int, eqA_bl, len_tup, lenO_l, lenO_k, lenO_d, len_ref, Ab.int_int, Ab.add_int, Ab.sub_int, max_int, min_int, setI_ri, Bool.not_true, Bool.not_false, W_ok, W_bad, WS_fl, W_bind, WS_st, sq_nx, sq_rt, sq_bk, sq_ct, WS_seq, en_nx, en_rt, W_end, tn_nx, tn_ct, tn_bk, tn_rt, atI0, atI1, atI2, atI3, W_ofO, setO_0, setO_1, setO_2, get_set_s, get_set_n, get_push_lt, lt_push, lt_set, ne_push, push_n', set_n', get_push_self, mulR, Ab.mod_int, Int.reduceLT, Int.reduceNeg, Int.reduceEq, lstA_ok, tupA_ok, lcE_ok, wipeA, List.set_cons_zero, List.set_cons_succ, ev_lc, ev_lc2, ev_dc, dcE_ok, ev_sup, src_e, src_r, src_en, srcV_t, srcV_s, srcV_r, srcO_l, rngV_n, list_r, list_t, tuple_r, tuple_t, seqO_l, seqO_k, listO_s, tupO_s, List.length_cons, List.length_nil, Nat.reduceAdd, Nat.reduceLeDiff, ne_eq, not_false_eq_true, Option.some.injEq, exists_eq_left', g1, g2, List.length_map, e3])
      rw [e1]
      exact ⟨_, e2, _, rfl, trivial⟩
    · (try simp only [ok_bind, bad_bind, ok_st, nx_seq, rt_seq, bk_seq, ct_seq, nx_turn, ct_turn, bk_turn, rt_turn, ok_nox, exs_nil, exs_cons, slot_z, slot_s, ev_cst, ev_var, ev_gf, ev_gk, ev_gc, ev_bin, negA_int, ev_neg, tst_bl, ev_not, ev_and, ev_or, ev_ite, ev_cmp, ev_cmp2, rb_some, ch2_t, ch2_f, ev_tup, ev_lst, ev_idx, ev_slc, ev_attr, ev_call, ev_blt, ev_isi, ev_isiE, ev_xmk, ev_make, ev_meth, evL_nil, evL_cons, evS_nil, evS_star, evS_one, evO_none, evO_some, optA_int, ex_asg, ex_expr, ex_ife, ex_for, ex_whl, ex_ret0, ex_ret, ex_pass, ex_brk, ex_cnt, putS_z, putS_s, asg_nm, asg_tp, asgL_nil, asgL_cons, asg_fld, asg_ix, endF_nx, endF_rt, iS_cst, iS_var, iS_gc, iS_gf, iS_gk, iS_bin, iS_neg, iS_not, iS_and, iS_or, iS_ite, iS_cmp, iS_cmp2, iS_tup, iS_lst, iS_dct, iS_idx, iS_slc, iS_attr, iS_call, iS_make, iS_blt, iS_isi, iS_meth, iS_lc, cnd_t, cnd_f, envO_z, envO_n, envO_c, ofO_some, idxI_l, idxI_k, idx_ri, idxS_d, idx_rs, idx_ti, fldO_i, fld_r, eq_d, ne_d, lt_d, le_d, gt_d, ge_d, is_d, isnot_d, in_d, notin_d, map_some, eqA_int, eqA_bl, len_tup, lenO_l, lenO_k, lenO_d, len_ref, Ab.int_int, Ab.add_int, Ab.sub_int, max_int, min_int, setI_ri, Bool.not_true, Bool.not_false, W_ok, W_bad, WS_fl, W_bind, WS_st, sq_nx, sq_rt, sq_bk, sq_ct, WS_seq, en_nx, en_rt, W_end, tn_nx, tn_ct, tn_bk, tn_rt, atI0, atI1, atI2, atI3, W_ofO, setO_0, setO_1, setO_2, get_set_s, get_set_n, get_push_lt, lt_push, lt_set, ne_push, push_n', set_n', get_push_self, mulR, Ab.mod_int, Int.reduceLT, Int.reduceNeg, Int.reduceEq, lstA_ok, tupA_ok, lcE_ok, wipeA, List.set_cons_zero, List.set_cons_succ, ev_lc, ev_lc2, ev_dc, dcE_ok, ev_sup, src_e, src_r, src_en, srcV_t, srcV_s, srcV_r, srcO_l, rngV_n, list_r, list_t, tuple_r, tuple_t, seqO_l, seqO_k, listO_s, tupO_s, List.length_cons, List.length_nil, Nat.reduceAdd, Nat.reduceLeDiff, ne_eq, not_false_eq_true, Option.some.injEq, exists_eq_left'])
      exact ⟨_, rfl, trivial⟩
  · rintro ρ S' ⟨x, rfl, rfl⟩
    have p18 : ∀ S : Hs, binA .Pow (.int 10) (.int 18) S = .ok (.int (10 ^ 18)) S := fun S => rfl
    (try simp only [ok_bind, bad_bind, ok_st, nx_seq, rt_seq, bk_seq, ct_seq, nx_turn, ct_turn, bk_turn, rt_turn, ok_nox, exs_nil, exs_cons, slot_z, slot_s, ev_cst, ev_var, ev_gf, ev_gk, ev_gc, ev_bin, negA_int, ev_neg, tst_bl, ev_not, ev_and, ev_or, ev_ite, ev_cmp, ev_cmp2, rb_some, ch2_t, ch2_f, ev_tup, ev_lst, ev_idx, ev_slc, ev_attr, ev_call, ev_blt, ev_isi, ev_isiE, ev_xmk, ev_make, ev_meth, evL_nil, evL_cons, evS_nil, evS_star, evS_one, evO_none, evO_some, optA_int, ex_asg, ex_expr, ex_ife, ex_for, ex_whl, ex_ret0, ex_ret, ex_pass, ex_brk, ex_cnt, putS_z, putS_s, asg_nm, asg_tp, asgL_nil, asgL_cons, asg_fld, asg_ix, endF_nx, endF_rt, iS_cst, iS_var, iS_gc, iS_gf, iS_gk, iS_bin, iS_neg, iS_not, iS_and, iS_or, iS_ite, iS_cmp, iS_cmp2, iS_tup, iS_lst, iS_dct, iS_idx, iS_slc, iS_attr, iS_call, iS_make, iS_blt, iS_isi, iS_meth, iS_lc, cnd_t, cnd_f, envO_z, envO_n, envO_c, ofO_some, idxI_l, idxI_k, idx_ri, idxS_d, idx_rs, idx_ti, fldO_i, fld_r, eq_d, ne_d, lt_d, le_d, gt_d, ge_d, is_d, isnot_d, in_d, notin_d, map_some, eqA_int, eqA_bl, len_tup, lenO_l, lenO_k, lenO_d, len_ref, Ab.int_int, Ab.add_int, Ab.sub_int, max_int, min_int, setI_ri, Bool.not_true, Bool.not_false, W_ok, W_bad, WS_fl, W_bind, WS_st, sq_nx, sq_rt, sq_bk, sq_ct, WS_seq, en_nx, en_rt, W_end, tn_nx, tn_ct, tn_bk, tn_rt, atI0, atI1, atI2, atI3, W_ofO, setO_0, setO_1, setO_2, get_set_s, get_set_n, get_push_lt, lt_push, lt_set, ne_push, push_n', set_n', get_push_self, mulR, Ab.mod_int, Int.reduceLT, Int.reduceNeg, Int.reduceEq, lstA_ok, tupA_ok, lcE_ok, wipeA, List.set_cons_zero, List.set_cons_succ, ev_lc, ev_lc2, ev_dc, dcE_ok, ev_sup, src_e, src_r, src_en, srcV_t, srcV_s, srcV_r, srcO_l, rngV_n, list_r, list_t, tuple_r, tuple_t, seqO_l, seqO_k, listO_s, tupO_s, List.length_cons, List.length_nil, Nat.reduceAdd, Nat.reduceLeDiff, ne_eq, not_false_eq_true, Option.some.injEq, exists_eq_left', g1, g2, p18])
    refine W_and (fun b S2 => S2 = S' ∧ (b = true → 10 ^ 18 ≤ x)) (fun h => ?_) (fun _ => ⟨rfl, fun h => nomatch h⟩) ?_
    · (try simp only [ok_bind, bad_bind, ok_st, nx_seq, rt_seq, bk_seq, ct_seq, nx_turn, ct_turn, bk_turn, rt_turn, ok_nox, exs_nil, exs_cons, slot_z, slot_s, ev_cst, ev_var, ev_gf, ev_gk, ev_gc, ev_bin, negA_int, ev_neg, tst_bl, ev_not, ev_and, ev_or, ev_ite, ev_cmp, ev_cmp2, rb_some, ch2_t, ch2_f, ev_tup, ev_lst, ev_idx, ev_slc, ev_attr, ev_call, ev_blt, ev_isi, ev_isiE, ev_xmk, ev_make, ev_meth, evL_nil, evL_cons, evS_nil, evS_star, evS_one, evO_none, evO_some, optA_int, ex_asg, ex_expr, ex_ife, ex_for, ex_whl, ex_ret0, ex_ret, ex_pass, ex_brk, ex_cnt, putS_z, putS_s, asg_nm, asg_tp, asgL_nil, asgL_cons, asg_fld, asg_ix, endF_nx, endF_rt, iS_cst, iS_var, iS_gc, iS_gf, iS_gk, iS_bin, iS_neg, iS_not, iS_and, iS_or, iS_ite, iS_cmp, iS_cmp2, iS_tup, iS_lst, iS_dct, iS_idx, iS_slc, iS_attr, iS_call, iS_make, iS_blt, iS_isi, iS_meth, iS_lc, cnd_t, cnd_f, envO_z, envO_n, envO_c, ofO_some, idxI_l, idxI_k, idx_ri, idxS_d, idx_rs, idx_ti, fldO_i, fld_r, eq_d, ne_d, lt_d, le_d, gt_d, ge_d, is_d, isnot_d, in_d, notin_d, map_some, eqA_int, eqA_bl, len_tup, lenO_l, lenO_k, lenO_d, len_ref, Ab.int_int, Ab.add_int, Ab.sub_int, max_int, min_int, setI_ri, Bool.not_true, Bool.not_false, W_ok, W_bad, WS_fl, W_bind, WS_st, sq_nx, sq_rt, sq_bk, sq_ct, WS_seq, en_nx, en_rt, W_end, tn_nx, tn_ct, tn_bk, tn_rt, atI0, atI1, atI2, atI3, W_ofO, setO_0, setO_1, setO_2, get_set_s, get_set_n, get_push_lt, lt_push, lt_set, ne_push, push_n', set_n', get_push_self, mulR, Ab.mod_int, Int.reduceLT, Int.reduceNeg, Int.reduceEq, lstA_ok, tupA_ok, lcE_ok, wipeA, List.set_cons_zero, List.set_cons_succ, ev_lc, ev_lc2, ev_dc, dcE_ok, ev_sup, src_e, src_r, src_en, srcV_t, srcV_s, srcV_r, srcO_l, rngV_n, list_r, list_t, tuple_r, tuple_t, seqO_l, seqO_k, listO_s, tupO_s, List.length_cons, List.length_nil, Nat.reduceAdd, Nat.reduceLeDiff, ne_eq, not_false_eq_true, Option.some.injEq, exists_eq_left'])
      exact ⟨_, rfl, trivial, fun h => of_decide_eq_true h⟩
    · rintro b S2 ⟨rfl, hb⟩
      (try simp only [ok_bind, bad_bind, ok_st, nx_seq, rt_seq, bk_seq, ct_seq, nx_turn, ct_turn, bk_turn, rt_turn, ok_nox, exs_nil, exs_cons, slot_z, slot_s, ev_cst, ev_var, ev_gf, ev_gk, ev_gc, ev_bin, negA_int, ev_neg, tst_bl, ev_not, ev_and, ev_or, ev_ite, ev_cmp, ev_cmp2, rb_some, ch2_t, ch2_f, ev_tup, ev_lst, ev_idx, ev_slc, ev_attr, ev_call, ev_blt, ev_isi, ev_isiE, ev_xmk, ev_make, ev_meth, evL_nil, evL_cons, evS_nil, evS_star, evS_one, evO_none, evO_some, optA_int, ex_asg, ex_expr, ex_ife, ex_for, ex_whl, ex_ret0, ex_ret, ex_pass, ex_brk, ex_cnt, putS_z, putS_s, asg_nm, asg_tp, asgL_nil, asgL_cons, asg_fld, asg_ix, endF_nx, endF_rt, iS_cst, iS_var, iS_gc, iS_gf, iS_gk, iS_bin, iS_neg, iS_not, iS_and, iS_or, iS_ite, iS_cmp, iS_cmp2, iS_tup, iS_lst, iS_dct, iS_idx, iS_slc, iS_attr, iS_call, iS_make, iS_blt, iS_isi, iS_meth, iS_lc, cnd_t, cnd_f, envO_z, envO_n, envO_c, ofO_some, idxI_l, idxI_k, idx_ri, idxS_d, idx_rs, idx_ti, fldO_i, fld_r, eq_d, ne_d, lt_d, le_d, gt_d, ge_d, is_d, isnot_d, in_d, notin_d, map_some, eqA_int, eqA_bl, len_tup, lenO_l, lenO_k, lenO_d, len_ref, Ab.int_int, Ab.add_int, Ab.sub_int, max_int, min_int, setI_ri, Bool.not_true, Bool.not_false, W_ok, W_bad, WS_fl, W_bind, WS_st, sq_nx, sq_rt, sq_bk, sq_ct, WS_seq, en_nx, en_rt, W_end, tn_nx, tn_ct, tn_bk, tn_rt, atI0, atI1, atI2, atI3, W_ofO, setO_0, setO_1, setO_2, get_set_s, get_set_n, get_push_lt, lt_push, lt_set, ne_push, push_n', set_n', get_push_self, mulR, Ab.mod_int, Int.reduceLT, Int.reduceNeg, Int.reduceEq, lstA_ok, tupA_ok, lcE_ok, wipeA, List.set_cons_zero, List.set_cons_succ, ev_lc, ev_lc2, ev_dc, dcE_ok, ev_sup, src_e, src_r, src_en, srcV_t, srcV_s, srcV_r, srcO_l, rngV_n, list_r, list_t, tuple_r, tuple_t, seqO_l, seqO_k, listO_s, tupO_s, List.length_cons, List.length_nil, Nat.reduceAdd, Nat.reduceLeDiff, ne_eq, not_false_eq_true, Option.some.injEq, exists_eq_left'])
      refine WS_if (fun h => ?_) (fun h => ?_)
      · (try simp only [ok_bind, bad_bind, ok_st, nx_seq, rt_seq, bk_seq, ct_seq, nx_turn, ct_turn, bk_turn, rt_turn, ok_nox, exs_nil, exs_cons, slot_z, slot_s, ev_cst, ev_var, ev_gf, ev_gk, ev_gc, ev_bin, negA_int, ev_neg, tst_bl, ev_not, ev_and, ev_or, ev_ite, ev_cmp, ev_cmp2, rb_some, ch2_t, ch2_f, ev_tup, ev_lst, ev_idx, ev_slc, ev_attr, ev_call, ev_blt, ev_isi, ev_isiE, ev_xmk, ev_make, ev_meth, evL_nil, evL_cons, evS_nil, evS_star, evS_one, evO_none, evO_some, optA_int, ex_asg, ex_expr, ex_ife, ex_for, ex_whl, ex_ret0, ex_ret, ex_pass, ex_brk, ex_cnt, putS_z, putS_s, asg_nm, asg_tp, asgL_nil, asgL_cons, asg_fld, asg_ix, endF_nx, endF_rt, iS_cst, iS_var, iS_gc, iS_gf, iS_gk, iS_bin, iS_neg, iS_not, iS_and, iS_or, iS_ite, iS_cmp, iS_cmp2, iS_tup, iS_lst, iS_dct, iS_idx, iS_slc, iS_attr, iS_call, iS_make, iS_blt, iS_isi, iS_meth, iS_lc, cnd_t, cnd_f, envO_z, envO_n, envO_c, ofO_some, idxI_l, idxI_k, idx_ri, idxS_d, idx_rs, idx_ti, fldO_i, fld_r, eq_d, ne_d, lt_d, le_d, gt_d, ge_d, is_d, isnot_d, in_d, notin_d, map_some, eqA_int, eqA_bl, len_tup, lenO_l, lenO_k, lenO_d, len_ref, Ab.int_int, Ab.add_int, Ab.sub_int, max_int, min_int, setI_ri, Bool.not_true, Bool.not_false, W_ok, W_bad, WS_fl, W_bind, WS_st, sq_nx, sq_rt, sq_bk, sq_ct, WS_seq, en_nx, en_rt, W_end, tn_nx, tn_ct, tn_bk, tn_rt, atI0, atI1, atI2, atI3, W_ofO, setO_0, setO_1, setO_2, get_set_s, get_set_n, get_push_lt, lt_push, lt_set, ne_push, push_n', set_n', get_push_self, mulR, Ab.mod_int, Int.reduceLT, Int.reduceNeg, Int.reduceEq, lstA_ok, tupA_ok, lcE_ok, wipeA, List.set_cons_zero, List.set_cons_succ, ev_lc, ev_lc2, ev_dc, dcE_ok, ev_sup, src_e, src_r, src_en, srcV_t, srcV_s, srcV_r, srcO_l, rngV_n, list_r, list_t, tuple_r, tuple_t, seqO_l, seqO_k, listO_s, tupO_s, List.length_cons, List.length_nil, Nat.reduceAdd, Nat.reduceLeDiff, ne_eq, not_false_eq_true, Option.some.injEq, exists_eq_left'])
        exact q _ _ pen1 fr (by have := hb h; omega)
      · have hi : (i : Int) < 1152921504606846976 := by omega
        (try simp only [ok_bind, bad_bind, ok_st, nx_seq, rt_seq, bk_seq, ct_seq, nx_turn, ct_turn, bk_turn, rt_turn, ok_nox, exs_nil, exs_cons, slot_z, slot_s, ev_cst, ev_var, ev_gf, ev_gk, ev_gc, ev_bin, negA_int, ev_neg, tst_bl, ev_not, ev_and, ev_or, ev_ite, ev_cmp, ev_cmp2, rb_some, ch2_t, ch2_f, ev_tup, ev_lst, ev_idx, ev_slc, ev_attr, ev_call, ev_blt, ev_isi, ev_isiE, ev_xmk, ev_make, ev_meth, evL_nil, evL_cons, evS_nil, evS_star, evS_one, evO_none, evO_some, optA_int, ex_asg, ex_expr, ex_ife, ex_for, ex_whl, ex_ret0, ex_ret, ex_pass, ex_brk, ex_cnt, putS_z, putS_s, asg_nm, asg_tp, asgL_nil, asgL_cons, asg_fld, asg_ix, endF_nx, endF_rt, iS_cst, iS_var, iS_gc, iS_gf, iS_gk, iS_bin, iS_neg, iS_not, iS_and, iS_or, iS_ite, iS_cmp, iS_cmp2, iS_tup, iS_lst, iS_dct, iS_idx, iS_slc, iS_attr, iS_call, iS_make, iS_blt, iS_isi, iS_meth, iS_lc, cnd_t, cnd_f, envO_z, envO_n, envO_c, ofO_some, idxI_l, idxI_k, idx_ri, idxS_d, idx_rs, idx_ti, fldO_i, fld_r, eq_d, ne_d, lt_d, le_d, gt_d, ge_d, is_d, isnot_d, in_d, notin_d, map_some, eqA_int, eqA_bl, len_tup, lenO_l, lenO_k, lenO_d, len_ref, Ab.int_int, Ab.add_int, Ab.sub_int, max_int, min_int, setI_ri, Bool.not_true, Bool.not_false, W_ok, W_bad, WS_fl, W_bind, WS_st, sq_nx, sq_rt, sq_bk, sq_ct, WS_seq, en_nx, en_rt, W_end, tn_nx, tn_ct, tn_bk, tn_rt, atI0, atI1, atI2, atI3, W_ofO, setO_0, setO_1, setO_2, get_set_s, get_set_n, get_push_lt, lt_push, lt_set, ne_push, push_n', set_n', get_push_self, mulR, Ab.mod_int, Int.reduceLT, Int.reduceNeg, Int.reduceEq, lstA_ok, tupA_ok, lcE_ok, wipeA, List.set_cons_zero, List.set_cons_succ, ev_lc, ev_lc2, ev_dc, dcE_ok, ev_sup, src_e, src_r, src_en, srcV_t, srcV_s, srcV_r, srcO_l, rngV_n, list_r, list_t, tuple_r, tuple_t, seqO_l, seqO_k, listO_s, tupO_s, List.length_cons, List.length_nil, Nat.reduceAdd, Nat.reduceLeDiff, ne_eq, not_false_eq_true, Option.some.injEq, exists_eq_left'])
        have b1 : ∀ a : Int, 0 ≤ a.fmod 2147483587 ∧ a.fmod 2147483587 < 2147483587 := fun a => ⟨Int.fmod_nonneg_of_pos _ (by omega), Int.fmod_lt_of_pos _ (by omega)⟩
        have b2 : ∀ a : Int, 0 ≤ a.fmod 2147483563 ∧ a.fmod 2147483563 < 2147483563 := fun a => ⟨Int.fmod_nonneg_of_pos _ (by omega), Int.fmod_lt_of_pos _ (by omega)⟩
        have b3 : ∀ a : Int, 0 ≤ a.fmod 2147483549 ∧ a.fmod 2147483549 < 2147483549 := fun a => ⟨Int.fmod_nonneg_of_pos _ (by omega), Int.fmod_lt_of_pos _ (by omega)⟩
        obtain ⟨c1, c2⟩ := b1 (x.fmod 2147483587 + ↑i * 30103 + 79)
        generalize (x.fmod 2147483587 + ↑i * 30103 + 79).fmod 2147483587 = y at c1 c2 ⊢
        rw [mulL (i := y) (by omega) (by omega)]
        (try simp only [ok_bind, bad_bind, ok_st, nx_seq, rt_seq, bk_seq, ct_seq, nx_turn, ct_turn, bk_turn, rt_turn, ok_nox, exs_nil, exs_cons, slot_z, slot_s, ev_cst, ev_var, ev_gf, ev_gk, ev_gc, ev_bin, negA_int, ev_neg, tst_bl, ev_not, ev_and, ev_or, ev_ite, ev_cmp, ev_cmp2, rb_some, ch2_t, ch2_f, ev_tup, ev_lst, ev_idx, ev_slc, ev_attr, ev_call, ev_blt, ev_isi, ev_isiE, ev_xmk, ev_make, ev_meth, evL_nil, evL_cons, evS_nil, evS_star, evS_one, evO_none, evO_some, optA_int, ex_asg, ex_expr, ex_ife, ex_for, ex_whl, ex_ret0, ex_ret, ex_pass, ex_brk, ex_cnt, putS_z, putS_s, asg_nm, asg_tp, asgL_nil, asgL_cons, asg_fld, asg_ix, endF_nx, endF_rt, iS_cst, iS_var, iS_gc, iS_gf, iS_gk, iS_bin, iS_neg, iS_not, iS_and, iS_or, iS_ite, iS_cmp, iS_cmp2, iS_tup, iS_lst, iS_dct, iS_idx, iS_slc, iS_attr, iS_call, iS_make, iS_blt, iS_isi, iS_meth, iS_lc, cnd_t, cnd_f, envO_z, envO_n, envO_c, ofO_some, idxI_l, idxI_k, idx_ri, idxS_d, idx_rs, idx_ti, fldO_i, fld_r, eq_d, ne_d, lt_d, le_d, gt_d, ge_d, is_d, isnot_d, in_d, notin_d, map_some, eqA_int, eqA_bl, len_tup, lenO_l, lenO_k, lenO_d, len_ref, Ab.int_int, Ab.add_int, Ab.sub_int, max_int, min_int, setI_ri, Bool.not_true, Bool.not_false, W_ok, W_bad, WS_fl, W_bind, WS_st, sq_nx, sq_rt, sq_bk, sq_ct, WS_seq, en_nx, en_rt, W_end, tn_nx, tn_ct, tn_bk, tn_rt, atI0, atI1, atI2, atI3, W_ofO, setO_0, setO_1, setO_2, get_set_s, get_set_n, get_push_lt, lt_push, lt_set, ne_push, push_n', set_n', get_push_self, mulR, Ab.mod_int, Int.reduceLT, Int.reduceNeg, Int.reduceEq, lstA_ok, tupA_ok, lcE_ok, wipeA, List.set_cons_zero, List.set_cons_succ, ev_lc, ev_lc2, ev_dc, dcE_ok, ev_sup, src_e, src_r, src_en, srcV_t, srcV_s, srcV_r, srcO_l, rngV_n, list_r, list_t, tuple_r, tuple_t, seqO_l, seqO_k, listO_s, tupO_s, List.length_cons, List.length_nil, Nat.reduceAdd, Nat.reduceLeDiff, ne_eq, not_false_eq_true, Option.some.injEq, exists_eq_left'])
        obtain ⟨d1, d2⟩ := b2 (y * y + ↑i * 70039 + 61)
        generalize (y * y + ↑i * 70039 + 61).fmod 2147483563 = z at d1 d2 ⊢
        rw [mulL (i := z) (by omega) (by omega)]
        (try simp only [ok_bind, bad_bind, ok_st, nx_seq, rt_seq, bk_seq, ct_seq, nx_turn, ct_turn, bk_turn, rt_turn, ok_nox, exs_nil, exs_cons, slot_z, slot_s, ev_cst, ev_var, ev_gf, ev_gk, ev_gc, ev_bin, negA_int, ev_neg, tst_bl, ev_not, ev_and, ev_or, ev_ite, ev_cmp, ev_cmp2, rb_some, ch2_t, ch2_f, ev_tup, ev_lst, ev_idx, ev_slc, ev_attr, ev_call, ev_blt, ev_isi, ev_isiE, ev_xmk, ev_make, ev_meth, evL_nil, evL_cons, evS_nil, evS_star, evS_one, evO_none, evO_some, optA_int, ex_asg, ex_expr, ex_ife, ex_for, ex_whl, ex_ret0, ex_ret, ex_pass, ex_brk, ex_cnt, putS_z, putS_s, asg_nm, asg_tp, asgL_nil, asgL_cons, asg_fld, asg_ix, endF_nx, endF_rt, iS_cst, iS_var, iS_gc, iS_gf, iS_gk, iS_bin, iS_neg, iS_not, iS_and, iS_or, iS_ite, iS_cmp, iS_cmp2, iS_tup, iS_lst, iS_dct, iS_idx, iS_slc, iS_attr, iS_call, iS_make, iS_blt, iS_isi, iS_meth, iS_lc, cnd_t, cnd_f, envO_z, envO_n, envO_c, ofO_some, idxI_l, idxI_k, idx_ri, idxS_d, idx_rs, idx_ti, fldO_i, fld_r, eq_d, ne_d, lt_d, le_d, gt_d, ge_d, is_d, isnot_d, in_d, notin_d, map_some, eqA_int, eqA_bl, len_tup, lenO_l, lenO_k, lenO_d, len_ref, Ab.int_int, Ab.add_int, Ab.sub_int, max_int, min_int, setI_ri, Bool.not_true, Bool.not_false, W_ok, W_bad, WS_fl, W_bind, WS_st, sq_nx, sq_rt, sq_bk, sq_ct, WS_seq, en_nx, en_rt, W_end, tn_nx, tn_ct, tn_bk, tn_rt, atI0, atI1, atI2, atI3, W_ofO, setO_0, setO_1, setO_2, get_set_s, get_set_n, get_push_lt, lt_push, lt_set, ne_push, push_n', set_n', get_push_self, mulR, Ab.mod_int, Int.reduceLT, Int.reduceNeg, Int.reduceEq, lstA_ok, tupA_ok, lcE_ok, wipeA, List.set_cons_zero, List.set_cons_succ, ev_lc, ev_lc2, ev_dc, dcE_ok, ev_sup, src_e, src_r, src_en, srcV_t, srcV_s, srcV_r, srcO_l, rngV_n, list_r, list_t, tuple_r, tuple_t, seqO_l, seqO_k, listO_s, tupO_s, List.length_cons, List.length_nil, Nat.reduceAdd, Nat.reduceLeDiff, ne_eq, not_false_eq_true, Option.some.injEq, exists_eq_left'])
        rw [mulL (i := (i : Int)) (by omega) (by omega)]
        (try simp only [ok_bind, bad_bind, ok_st, nx_seq, rt_seq, bk_seq, ct_seq, nx_turn, ct_turn, bk_turn, rt_turn, ok_nox, exs_nil, exs_cons, slot_z, slot_s, ev_cst, ev_var, ev_gf, ev_gk, ev_gc, ev_bin, negA_int, ev_neg, tst_bl, ev_not, ev_and, ev_or, ev_ite, ev_cmp, ev_cmp2, rb_some, ch2_t, ch2_f, ev_tup, ev_lst, ev_idx, ev_slc, ev_attr, ev_call, ev_blt, ev_isi, ev_isiE, ev_xmk, ev_make, ev_meth, evL_nil, evL_cons, evS_nil, evS_star, evS_one, evO_none, evO_some, optA_int, ex_asg, ex_expr, ex_ife, ex_for, ex_whl, ex_ret0, ex_ret, ex_pass, ex_brk, ex_cnt, putS_z, putS_s, asg_nm, asg_tp, asgL_nil, asgL_cons, asg_fld, asg_ix, endF_nx, endF_rt, iS_cst, iS_var, iS_gc, iS_gf, iS_gk, iS_bin, iS_neg, iS_not, iS_and, iS_or, iS_ite, iS_cmp, iS_cmp2, iS_tup, iS_lst, iS_dct, iS_idx, iS_slc, iS_attr, iS_call, iS_make, iS_blt, iS_isi, iS_meth, iS_lc, cnd_t, cnd_f, envO_z, envO_n, envO_c, ofO_some, idxI_l, idxI_k, idx_ri, idxS_d, idx_rs, idx_ti, fldO_i, fld_r, eq_d, ne_d, lt_d, le_d, gt_d, ge_d, is_d, isnot_d, in_d, notin_d, map_some, eqA_int, eqA_bl, len_tup, lenO_l, lenO_k, lenO_d, len_ref, Ab.int_int, Ab.add_int, Ab.sub_int, max_int, min_int, setI_ri, Bool.not_true, Bool.not_false, W_ok, W_bad, WS_fl, W_bind, WS_st, sq_nx, sq_rt, sq_bk, sq_ct, WS_seq, en_nx, en_rt, W_end, tn_nx, tn_ct, tn_bk, tn_rt, atI0, atI1, atI2, atI3, W_ofO, setO_0, setO_1, setO_2, get_set_s, get_set_n, get_push_lt, lt_push, lt_set, ne_push, push_n', set_n', get_push_self, mulR, Ab.mod_int, Int.reduceLT, Int.reduceNeg, Int.reduceEq, lstA_ok, tupA_ok, lcE_ok, wipeA, List.set_cons_zero, List.set_cons_succ, ev_lc, ev_lc2, ev_dc, dcE_ok, ev_sup, src_e, src_r, src_en, srcV_t, srcV_s, srcV_r, srcO_l, rngV_n, list_r, list_t, tuple_r, tuple_t, seqO_l, seqO_k, listO_s, tupO_s, List.length_cons, List.length_nil, Nat.reduceAdd, Nat.reduceLeDiff, ne_eq, not_false_eq_true, Option.some.injEq, exists_eq_left'])
        obtain ⟨e1, e2⟩ := b3 (z * z + y + ↑i * ↑i * 37)
        generalize (z * z + y + ↑i * ↑i * 37).fmod 2147483549 = u at e1 e2 ⊢
        exact q _ _ pen1 fr (by omega)
theorem Pen.mono {S : Hs} {r c n m : Nat} (h : Pen S r c n) (hm : n ≤ m) : Pen S r c m := by
  obtain ⟨⟨cells, i, v, h1, h2, h3, h4, h5⟩, hne⟩ := h
  exact ⟨⟨cells, i, v, h1, h2, by omega, h4, h5⟩, hne⟩
theorem Pen.fr {S S' : Hs} {r c n : Nat} {M : Nat → Prop} (h : Pen S r c n) (f : Ab.Fr M S S') (h1 : ¬ M r) (h2 : ¬ M c) : Pen S' r c n := by
  obtain ⟨⟨cells, i, v, g1, g2, h3, h4, h5⟩, hne⟩ := h
  exact ⟨⟨cells, i, v, f.at g1 h1, f.at g2 h2, h3, h4, h5⟩, hne⟩
theorem draw_ok {d : Nat} {S : Hs} {r c n u : Nat} {Q : AV → Hs → Prop} (hp : Pen S r c n) (hn : n < 2 ^ 60) (hu : 0 < u) (hu2 : u < 1073741824) (q : ∀ (S' : Hs) (k : Nat), Pen S' r c (n + 1) → Ab.Fr (· = r) S S' → k < u → Q (.int k) S') : W (callN G fbs (d + 2) 2 [.ref r, .int u] S) Q := by
  have hne := hp.ne
  refine W_call f2 rfl (by decide) rfl ?_
  unfold b2
  obtain ⟨⟨cells, i, v, h1, h2, h3, h4, h5⟩, _⟩ := hp
  (try simp only [ok_bind, bad_bind, ok_st, nx_seq, rt_seq, bk_seq, ct_seq, nx_turn, ct_turn, bk_turn, rt_turn, ok_nox, exs_nil, exs_cons, slot_z, slot_s, ev_cst, ev_var, ev_gf, ev_gk, ev_gc, ev_bin, negA_int, ev_neg, tst_bl, ev_not, ev_and, ev_or, ev_ite, ev_cmp, ev_cmp2, rb_some, ch2_t, ch2_f, ev_tup, ev_lst, ev_idx, ev_slc, ev_attr, ev_call, ev_blt, ev_isi, ev_isiE, ev_xmk, ev_make, ev_meth, evL_nil, evL_cons, evS_nil, evS_star, evS_one, evO_none, evO_some, optA_int, ex_asg, ex_expr, ex_ife, ex_for, ex_whl, ex_ret0, ex_ret, ex_pass, ex_brk, ex_cnt, putS_z, putS_s, asg_nm, asg_tp, asgL_nil, asgL_cons, asg_fld, asg_ix, endF_nx, endF_rt, iS_cst, iS_var, iS_gc, iS_gf, iS_gk, iS_bin, iS_neg, iS_not, iS_and, iS_or, iS_ite, iS_cmp, iS_cmp2, iS_tup, iS_lst, iS_dct, iS_idx, iS_slc, iS_attr, iS_call, iS_make, iS_blt, iS_isi, iS_meth, iS_lc, cnd_t, cnd_f, envO_z, envO_n, envO_c, ofO_some, idxI_l, idxI_k, idx_ri, idxS_d, idx_rs, idx_ti, fldO_i, fld_r, eq_d, ne_d, lt_d, le_d, gt_d, ge_d, is_d, isnot_d, in_d, notin_d, map_some, eqA_int, eqA_bl, len_tup, lenO_l, lenO_k, lenO_d, len_ref, Ab.int_int, Ab.add_int, Ab.sub_int, max_int, min_int, setI_ri, Bool.not_true, Bool.not_false, W_ok, W_bad, WS_fl, W_bind, WS_st, sq_nx, sq_rt, sq_bk, sq_ct, WS_seq, en_nx, en_rt, W_end, tn_nx, tn_ct, tn_bk, tn_rt, atI0, atI1, atI2, atI3, W_ofO, setO_0, setO_1, setO_2, get_set_s, get_set_n, get_push_lt, lt_push, lt_set, ne_push, push_n', set_n', get_push_self, mulR, Ab.mod_int, Int.reduceLT, Int.reduceNeg, Int.reduceEq, lstA_ok, tupA_ok, lcE_ok, wipeA, List.set_cons_zero, List.set_cons_succ, ev_lc, ev_lc2, ev_dc, dcE_ok, ev_sup, src_e, src_r, src_en, srcV_t, srcV_s, srcV_r, srcO_l, rngV_n, list_r, list_t, tuple_r, tuple_t, seqO_l, seqO_k, listO_s, tupO_s, List.length_cons, List.length_nil, Nat.reduceAdd, Nat.reduceLeDiff, ne_eq, not_false_eq_true, Option.some.injEq, exists_eq_left', h1])
  refine WS_mid (fun ρ S' => ρ = [some (.ref r), some (.int u), none] ∧ Pen S' r c (n + 1) ∧ Ab.Fr (· = r) S S') ?_ ?_
  · refine WS_if (fun h => ?_) (fun h => ?_)
    · (try simp only [ok_bind, bad_bind, ok_st, nx_seq, rt_seq, bk_seq, ct_seq, nx_turn, ct_turn, bk_turn, rt_turn, ok_nox, exs_nil, exs_cons, slot_z, slot_s, ev_cst, ev_var, ev_gf, ev_gk, ev_gc, ev_bin, negA_int, ev_neg, tst_bl, ev_not, ev_and, ev_or, ev_ite, ev_cmp, ev_cmp2, rb_some, ch2_t, ch2_f, ev_tup, ev_lst, ev_idx, ev_slc, ev_attr, ev_call, ev_blt, ev_isi, ev_isiE, ev_xmk, ev_make, ev_meth, evL_nil, evL_cons, evS_nil, evS_star, evS_one, evO_none, evO_some, optA_int, ex_asg, ex_expr, ex_ife, ex_for, ex_whl, ex_ret0, ex_ret, ex_pass, ex_brk, ex_cnt, putS_z, putS_s, asg_nm, asg_tp, asgL_nil, asgL_cons, asg_fld, asg_ix, endF_nx, endF_rt, iS_cst, iS_var, iS_gc, iS_gf, iS_gk, iS_bin, iS_neg, iS_not, iS_and, iS_or, iS_ite, iS_cmp, iS_cmp2, iS_tup, iS_lst, iS_dct, iS_idx, iS_slc, iS_attr, iS_call, iS_make, iS_blt, iS_isi, iS_meth, iS_lc, cnd_t, cnd_f, envO_z, envO_n, envO_c, ofO_some, idxI_l, idxI_k, idx_ri, idxS_d, idx_rs, idx_ti, fldO_i, fld_r, eq_d, ne_d, lt_d, le_d, gt_d, ge_d, is_d, isnot_d, in_d, notin_d, map_some, eqA_int, eqA_bl, len_tup, lenO_l, lenO_k, lenO_d, len_ref, Ab.int_int, Ab.add_int, Ab.sub_int, max_int, min_int, setI_ri, Bool.not_true, Bool.not_false, W_ok, W_bad, WS_fl, W_bind, WS_st, sq_nx, sq_rt, sq_bk, sq_ct, WS_seq, en_nx, en_rt, W_end, tn_nx, tn_ct, tn_bk, tn_rt, atI0, atI1, atI2, atI3, W_ofO, setO_0, setO_1, setO_2, get_set_s, get_set_n, get_push_lt, lt_push, lt_set, ne_push, push_n', set_n', get_push_self, mulR, Ab.mod_int, Int.reduceLT, Int.reduceNeg, Int.reduceEq, lstA_ok, tupA_ok, lcE_ok, wipeA, List.set_cons_zero, List.set_cons_succ, ev_lc, ev_lc2, ev_dc, dcE_ok, ev_sup, src_e, src_r, src_en, srcV_t, srcV_s, srcV_r, srcO_l, rngV_n, list_r, list_t, tuple_r, tuple_t, seqO_l, seqO_k, listO_s, tupO_s, List.length_cons, List.length_nil, Nat.reduceAdd, Nat.reduceLeDiff, ne_eq, not_false_eq_true, Option.some.injEq, exists_eq_left'])
      refine next_ok ⟨⟨cells, i, v, h1, h2, h3, h4, h5⟩, hne⟩ hn fun S1 w hp1 fr1 hw => ?_
      obtain ⟨⟨cells, i, v, h1, h2, h3, h4, h5⟩, _⟩ := hp1
      have hr := Hs.lt_of_get h1
      have hc := Hs.lt_of_get h2
      (try simp only [ok_bind, bad_bind, ok_st, nx_seq, rt_seq, bk_seq, ct_seq, nx_turn, ct_turn, bk_turn, rt_turn, ok_nox, exs_nil, exs_cons, slot_z, slot_s, ev_cst, ev_var, ev_gf, ev_gk, ev_gc, ev_bin, negA_int, ev_neg, tst_bl, ev_not, ev_and, ev_or, ev_ite, ev_cmp, ev_cmp2, rb_some, ch2_t, ch2_f, ev_tup, ev_lst, ev_idx, ev_slc, ev_attr, ev_call, ev_blt, ev_isi, ev_isiE, ev_xmk, ev_make, ev_meth, evL_nil, evL_cons, evS_nil, evS_star, evS_one, evO_none, evO_some, optA_int, ex_asg, ex_expr, ex_ife, ex_for, ex_whl, ex_ret0, ex_ret, ex_pass, ex_brk, ex_cnt, putS_z, putS_s, asg_nm, asg_tp, asgL_nil, asgL_cons, asg_fld, asg_ix, endF_nx, endF_rt, iS_cst, iS_var, iS_gc, iS_gf, iS_gk, iS_bin, iS_neg, iS_not, iS_and, iS_or, iS_ite, iS_cmp, iS_cmp2, iS_tup, iS_lst, iS_dct, iS_idx, iS_slc, iS_attr, iS_call, iS_make, iS_blt, iS_isi, iS_meth, iS_lc, cnd_t, cnd_f, envO_z, envO_n, envO_c, ofO_some, idxI_l, idxI_k, idx_ri, idxS_d, idx_rs, idx_ti, fldO_i, fld_r, eq_d, ne_d, lt_d, le_d, gt_d, ge_d, is_d, isnot_d, in_d, notin_d, map_some, eqA_int, eqA_bl, len_tup, lenO_l, lenO_k, lenO_d, len_ref, Ab.int_int, Ab.add_int, Ab.sub_int, max_int, min_int, setI_ri, Bool.not_true, Bool.not_false, W_ok, W_bad, WS_fl, W_bind, WS_st, sq_nx, sq_rt, sq_bk, sq_ct, WS_seq, en_nx, en_rt, W_end, tn_nx, tn_ct, tn_bk, tn_rt, atI0, atI1, atI2, atI3, W_ofO, setO_0, setO_1, setO_2, get_set_s, get_set_n, get_push_lt, lt_push, lt_set, ne_push, push_n', set_n', get_push_self, mulR, Ab.mod_int, Int.reduceLT, Int.reduceNeg, Int.reduceEq, lstA_ok, tupA_ok, lcE_ok, wipeA, List.set_cons_zero, List.set_cons_succ, ev_lc, ev_lc2, ev_dc, dcE_ok, ev_sup, src_e, src_r, src_en, srcV_t, srcV_s, srcV_r, srcO_l, rngV_n, list_r, list_t, tuple_r, tuple_t, seqO_l, seqO_k, listO_s, tupO_s, List.length_cons, List.length_nil, Nat.reduceAdd, Nat.reduceLeDiff, ne_eq, not_false_eq_true, Option.some.injEq, exists_eq_left', h1])
      refine ⟨trivial, ⟨⟨cells, i, w, ?_, ?_, h3, hw, h5⟩, hne⟩, fr1.trans (Ab.Fr.set (M := (· = r)) rfl)⟩
      · (try simp only [ok_bind, bad_bind, ok_st, nx_seq, rt_seq, bk_seq, ct_seq, nx_turn, ct_turn, bk_turn, rt_turn, ok_nox, exs_nil, exs_cons, slot_z, slot_s, ev_cst, ev_var, ev_gf, ev_gk, ev_gc, ev_bin, negA_int, ev_neg, tst_bl, ev_not, ev_and, ev_or, ev_ite, ev_cmp, ev_cmp2, rb_some, ch2_t, ch2_f, ev_tup, ev_lst, ev_idx, ev_slc, ev_attr, ev_call, ev_blt, ev_isi, ev_isiE, ev_xmk, ev_make, ev_meth, evL_nil, evL_cons, evS_nil, evS_star, evS_one, evO_none, evO_some, optA_int, ex_asg, ex_expr, ex_ife, ex_for, ex_whl, ex_ret0, ex_ret, ex_pass, ex_brk, ex_cnt, putS_z, putS_s, asg_nm, asg_tp, asgL_nil, asgL_cons, asg_fld, asg_ix, endF_nx, endF_rt, iS_cst, iS_var, iS_gc, iS_gf, iS_gk, iS_bin, iS_neg, iS_not, iS_and, iS_or, iS_ite, iS_cmp, iS_cmp2, iS_tup, iS_lst, iS_dct, iS_idx, iS_slc, iS_attr, iS_call, iS_make, iS_blt, iS_isi, iS_meth, iS_lc, cnd_t, cnd_f, envO_z, envO_n, envO_c, ofO_some, idxI_l, idxI_k, idx_ri, idxS_d, idx_rs, idx_ti, fldO_i, fld_r, eq_d, ne_d, lt_d, le_d, gt_d, ge_d, is_d, isnot_d, in_d, notin_d, map_some, eqA_int, eqA_bl, len_tup, lenO_l, lenO_k, lenO_d, len_ref, Ab.int_int, Ab.add_int, Ab.sub_int, max_int, min_int, setI_ri, Bool.not_true, Bool.not_false, W_ok, W_bad, WS_fl, W_bind, WS_st, sq_nx, sq_rt, sq_bk, sq_ct, WS_seq, en_nx, en_rt, W_end, tn_nx, tn_ct, tn_bk, tn_rt, atI0, atI1, atI2, atI3, W_ofO, setO_0, setO_1, setO_2, get_set_s, get_set_n, get_push_lt, lt_push, lt_set, ne_push, push_n', set_n', get_push_self, mulR, Ab.mod_int, Int.reduceLT, Int.reduceNeg, Int.reduceEq, lstA_ok, tupA_ok, lcE_ok, wipeA, List.set_cons_zero, List.set_cons_succ, ev_lc, ev_lc2, ev_dc, dcE_ok, ev_sup, src_e, src_r, src_en, srcV_t, srcV_s, srcV_r, srcO_l, rngV_n, list_r, list_t, tuple_r, tuple_t, seqO_l, seqO_k, listO_s, tupO_s, List.length_cons, List.length_nil, Nat.reduceAdd, Nat.reduceLeDiff, ne_eq, not_false_eq_true, Option.some.injEq, exists_eq_left', hr])
      · (try simp only [ok_bind, bad_bind, ok_st, nx_seq, rt_seq, bk_seq, ct_seq, nx_turn, ct_turn, bk_turn, rt_turn, ok_nox, exs_nil, exs_cons, slot_z, slot_s, ev_cst, ev_var, ev_gf, ev_gk, ev_gc, ev_bin, negA_int, ev_neg, tst_bl, ev_not, ev_and, ev_or, ev_ite, ev_cmp, ev_cmp2, rb_some, ch2_t, ch2_f, ev_tup, ev_lst, ev_idx, ev_slc, ev_attr, ev_call, ev_blt, ev_isi, ev_isiE, ev_xmk, ev_make, ev_meth, evL_nil, evL_cons, evS_nil, evS_star, evS_one, evO_none, evO_some, optA_int, ex_asg, ex_expr, ex_ife, ex_for, ex_whl, ex_ret0, ex_ret, ex_pass, ex_brk, ex_cnt, putS_z, putS_s, asg_nm, asg_tp, asgL_nil, asgL_cons, asg_fld, asg_ix, endF_nx, endF_rt, iS_cst, iS_var, iS_gc, iS_gf, iS_gk, iS_bin, iS_neg, iS_not, iS_and, iS_or, iS_ite, iS_cmp, iS_cmp2, iS_tup, iS_lst, iS_dct, iS_idx, iS_slc, iS_attr, iS_call, iS_make, iS_blt, iS_isi, iS_meth, iS_lc, cnd_t, cnd_f, envO_z, envO_n, envO_c, ofO_some, idxI_l, idxI_k, idx_ri, idxS_d, idx_rs, idx_ti, fldO_i, fld_r, eq_d, ne_d, lt_d, le_d, gt_d, ge_d, is_d, isnot_d, in_d, notin_d, map_some, eqA_int, eqA_bl, len_tup, lenO_l, lenO_k, lenO_d, len_ref, Ab.int_int, Ab.add_int, Ab.sub_int, max_int, min_int, setI_ri, Bool.not_true, Bool.not_false, W_ok, W_bad, WS_fl, W_bind, WS_st, sq_nx, sq_rt, sq_bk, sq_ct, WS_seq, en_nx, en_rt, W_end, tn_nx, tn_ct, tn_bk, tn_rt, atI0, atI1, atI2, atI3, W_ofO, setO_0, setO_1, setO_2, get_set_s, get_set_n, get_push_lt, lt_push, lt_set, ne_push, push_n', set_n', get_push_self, mulR, Ab.mod_int, Int.reduceLT, Int.reduceNeg, Int.reduceEq, lstA_ok, tupA_ok, lcE_ok, wipeA, List.set_cons_zero, List.set_cons_succ, ev_lc, ev_lc2, ev_dc, dcE_ok, ev_sup, src_e, src_r, src_en, srcV_t, srcV_s, srcV_r, srcO_l, rngV_n, list_r, list_t, tuple_r, tuple_t, seqO_l, seqO_k, listO_s, tupO_s, List.length_cons, List.length_nil, Nat.reduceAdd, Nat.reduceLeDiff, ne_eq, not_false_eq_true, Option.some.injEq, exists_eq_left', Ne.symm hne, h2])
    · (try simp only [ok_bind, bad_bind, ok_st, nx_seq, rt_seq, bk_seq, ct_seq, nx_turn, ct_turn, bk_turn, rt_turn, ok_nox, exs_nil, exs_cons, slot_z, slot_s, ev_cst, ev_var, ev_gf, ev_gk, ev_gc, ev_bin, negA_int, ev_neg, tst_bl, ev_not, ev_and, ev_or, ev_ite, ev_cmp, ev_cmp2, rb_some, ch2_t, ch2_f, ev_tup, ev_lst, ev_idx, ev_slc, ev_attr, ev_call, ev_blt, ev_isi, ev_isiE, ev_xmk, ev_make, ev_meth, evL_nil, evL_cons, evS_nil, evS_star, evS_one, evO_none, evO_some, optA_int, ex_asg, ex_expr, ex_ife, ex_for, ex_whl, ex_ret0, ex_ret, ex_pass, ex_brk, ex_cnt, putS_z, putS_s, asg_nm, asg_tp, asgL_nil, asgL_cons, asg_fld, asg_ix, endF_nx, endF_rt, iS_cst, iS_var, iS_gc, iS_gf, iS_gk, iS_bin, iS_neg, iS_not, iS_and, iS_or, iS_ite, iS_cmp, iS_cmp2, iS_tup, iS_lst, iS_dct, iS_idx, iS_slc, iS_attr, iS_call, iS_make, iS_blt, iS_isi, iS_meth, iS_lc, cnd_t, cnd_f, envO_z, envO_n, envO_c, ofO_some, idxI_l, idxI_k, idx_ri, idxS_d, idx_rs, idx_ti, fldO_i, fld_r, eq_d, ne_d, lt_d, le_d, gt_d, ge_d, is_d, isnot_d, in_d, notin_d, map_some, eqA_int, eqA_bl, len_tup, lenO_l, lenO_k, lenO_d, len_ref, Ab.int_int, Ab.add_int, Ab.sub_int, max_int, min_int, setI_ri, Bool.not_true, Bool.not_false, W_ok, W_bad, WS_fl, W_bind, WS_st, sq_nx, sq_rt, sq_bk, sq_ct, WS_seq, en_nx, en_rt, W_end, tn_nx, tn_ct, tn_bk, tn_rt, atI0, atI1, atI2, atI3, W_ofO, setO_0, setO_1, setO_2, get_set_s, get_set_n, get_push_lt, lt_push, lt_set, ne_push, push_n', set_n', get_push_self, mulR, Ab.mod_int, Int.reduceLT, Int.reduceNeg, Int.reduceEq, lstA_ok, tupA_ok, lcE_ok, wipeA, List.set_cons_zero, List.set_cons_succ, ev_lc, ev_lc2, ev_dc, dcE_ok, ev_sup, src_e, src_r, src_en, srcV_t, srcV_s, srcV_r, srcO_l, rngV_n, list_r, list_t, tuple_r, tuple_t, seqO_l, seqO_k, listO_s, tupO_s, List.length_cons, List.length_nil, Nat.reduceAdd, Nat.reduceLeDiff, ne_eq, not_false_eq_true, Option.some.injEq, exists_eq_left'])
      exact ⟨trivial, ⟨⟨cells, i, v, h1, h2, by omega, h4, h5⟩, hne⟩, Ab.Fr.refl⟩
  · rintro ρ S1 ⟨rfl, ⟨⟨cells, i, v, h1, h2, h3, h4, h5⟩, _⟩, fr⟩
    have hr := Hs.lt_of_get h1
    have hc := Hs.lt_of_get h2
    have hu' : (u : Int) ≠ 0 := by omega
    (try simp only [ok_bind, bad_bind, ok_st, nx_seq, rt_seq, bk_seq, ct_seq, nx_turn, ct_turn, bk_turn, rt_turn, ok_nox, exs_nil, exs_cons, slot_z, slot_s, ev_cst, ev_var, ev_gf, ev_gk, ev_gc, ev_bin, negA_int, ev_neg, tst_bl, ev_not, ev_and, ev_or, ev_ite, ev_cmp, ev_cmp2, rb_some, ch2_t, ch2_f, ev_tup, ev_lst, ev_idx, ev_slc, ev_attr, ev_call, ev_blt, ev_isi, ev_isiE, ev_xmk, ev_make, ev_meth, evL_nil, evL_cons, evS_nil, evS_star, evS_one, evO_none, evO_some, optA_int, ex_asg, ex_expr, ex_ife, ex_for, ex_whl, ex_ret0, ex_ret, ex_pass, ex_brk, ex_cnt, putS_z, putS_s, asg_nm, asg_tp, asgL_nil, asgL_cons, asg_fld, asg_ix, endF_nx, endF_rt, iS_cst, iS_var, iS_gc, iS_gf, iS_gk, iS_bin, iS_neg, iS_not, iS_and, iS_or, iS_ite, iS_cmp, iS_cmp2, iS_tup, iS_lst, iS_dct, iS_idx, iS_slc, iS_attr, iS_call, iS_make, iS_blt, iS_isi, iS_meth, iS_lc, cnd_t, cnd_f, envO_z, envO_n, envO_c, ofO_some, idxI_l, idxI_k, idx_ri, idxS_d, idx_rs, idx_ti, fldO_i, fld_r, eq_d, ne_d, lt_d, le_d, gt_d, ge_d, is_d, isnot_d, in_d, notin_d, map_some, eqA_int, eqA_bl, len_tup, lenO_l, lenO_k, lenO_d, len_ref, Ab.int_int, Ab.add_int, Ab.sub_int, max_int, min_int, setI_ri, Bool.not_true, Bool.not_false, W_ok, W_bad, WS_fl, W_bind, WS_st, sq_nx, sq_rt, sq_bk, sq_ct, WS_seq, en_nx, en_rt, W_end, tn_nx, tn_ct, tn_bk, tn_rt, atI0, atI1, atI2, atI3, W_ofO, setO_0, setO_1, setO_2, get_set_s, get_set_n, get_push_lt, lt_push, lt_set, ne_push, push_n', set_n', get_push_self, mulR, Ab.mod_int, Int.reduceLT, Int.reduceNeg, Int.reduceEq, lstA_ok, tupA_ok, lcE_ok, wipeA, List.set_cons_zero, List.set_cons_succ, ev_lc, ev_lc2, ev_dc, dcE_ok, ev_sup, src_e, src_r, src_en, srcV_t, srcV_s, srcV_r, srcO_l, rngV_n, list_r, list_t, tuple_r, tuple_t, seqO_l, seqO_k, listO_s, tupO_s, List.length_cons, List.length_nil, Nat.reduceAdd, Nat.reduceLeDiff, ne_eq, not_false_eq_true, Option.some.injEq, exists_eq_left', h1, hu'])
    rw [Ab.div_int _ _ ⟨hu', by omega⟩]
    (try simp only [ok_bind, bad_bind, ok_st, nx_seq, rt_seq, bk_seq, ct_seq, nx_turn, ct_turn, bk_turn, rt_turn, ok_nox, exs_nil, exs_cons, slot_z, slot_s, ev_cst, ev_var, ev_gf, ev_gk, ev_gc, ev_bin, negA_int, ev_neg, tst_bl, ev_not, ev_and, ev_or, ev_ite, ev_cmp, ev_cmp2, rb_some, ch2_t, ch2_f, ev_tup, ev_lst, ev_idx, ev_slc, ev_attr, ev_call, ev_blt, ev_isi, ev_isiE, ev_xmk, ev_make, ev_meth, evL_nil, evL_cons, evS_nil, evS_star, evS_one, evO_none, evO_some, optA_int, ex_asg, ex_expr, ex_ife, ex_for, ex_whl, ex_ret0, ex_ret, ex_pass, ex_brk, ex_cnt, putS_z, putS_s, asg_nm, asg_tp, asgL_nil, asgL_cons, asg_fld, asg_ix, endF_nx, endF_rt, iS_cst, iS_var, iS_gc, iS_gf, iS_gk, iS_bin, iS_neg, iS_not, iS_and, iS_or, iS_ite, iS_cmp, iS_cmp2, iS_tup, iS_lst, iS_dct, iS_idx, iS_slc, iS_attr, iS_call, iS_make, iS_blt, iS_isi, iS_meth, iS_lc, cnd_t, cnd_f, envO_z, envO_n, envO_c, ofO_some, idxI_l, idxI_k, idx_ri, idxS_d, idx_rs, idx_ti, fldO_i, fld_r, eq_d, ne_d, lt_d, le_d, gt_d, ge_d, is_d, isnot_d, in_d, notin_d, map_some, eqA_int, eqA_bl, len_tup, lenO_l, lenO_k, lenO_d, len_ref, Ab.int_int, Ab.add_int, Ab.sub_int, max_int, min_int, setI_ri, Bool.not_true, Bool.not_false, W_ok, W_bad, WS_fl, W_bind, WS_st, sq_nx, sq_rt, sq_bk, sq_ct, WS_seq, en_nx, en_rt, W_end, tn_nx, tn_ct, tn_bk, tn_rt, atI0, atI1, atI2, atI3, W_ofO, setO_0, setO_1, setO_2, get_set_s, get_set_n, get_push_lt, lt_push, lt_set, ne_push, push_n', set_n', get_push_self, mulR, Ab.mod_int, Int.reduceLT, Int.reduceNeg, Int.reduceEq, lstA_ok, tupA_ok, lcE_ok, wipeA, List.set_cons_zero, List.set_cons_succ, ev_lc, ev_lc2, ev_dc, dcE_ok, ev_sup, src_e, src_r, src_en, srcV_t, srcV_s, srcV_r, srcO_l, rngV_n, list_r, list_t, tuple_r, tuple_t, seqO_l, seqO_k, listO_s, tupO_s, List.length_cons, List.length_nil, Nat.reduceAdd, Nat.reduceLeDiff, ne_eq, not_false_eq_true, Option.some.injEq, exists_eq_left', h1])
    have e1 : v.fmod u = ((v.toNat % u : Nat) : Int) := by
      rw [Int.fmod_eq_emod_of_nonneg _ (by omega), Int.natCast_emod, Int.toNat_of_nonneg h4]
    rw [e1]
    refine q _ _ ⟨⟨cells, i, v.fdiv u, ?_, ?_, h3, ?_, h5⟩, hne⟩ (fr.trans (Ab.Fr.set (M := (· = r)) rfl)) (Nat.mod_lt _ hu)
    · (try simp only [ok_bind, bad_bind, ok_st, nx_seq, rt_seq, bk_seq, ct_seq, nx_turn, ct_turn, bk_turn, rt_turn, ok_nox, exs_nil, exs_cons, slot_z, slot_s, ev_cst, ev_var, ev_gf, ev_gk, ev_gc, ev_bin, negA_int, ev_neg, tst_bl, ev_not, ev_and, ev_or, ev_ite, ev_cmp, ev_cmp2, rb_some, ch2_t, ch2_f, ev_tup, ev_lst, ev_idx, ev_slc, ev_attr, ev_call, ev_blt, ev_isi, ev_isiE, ev_xmk, ev_make, ev_meth, evL_nil, evL_cons, evS_nil, evS_star, evS_one, evO_none, evO_some, optA_int, ex_asg, ex_expr, ex_ife, ex_for, ex_whl, ex_ret0, ex_ret, ex_pass, ex_brk, ex_cnt, putS_z, putS_s, asg_nm, asg_tp, asgL_nil, asgL_cons, asg_fld, asg_ix, endF_nx, endF_rt, iS_cst, iS_var, iS_gc, iS_gf, iS_gk, iS_bin, iS_neg, iS_not, iS_and, iS_or, iS_ite, iS_cmp, iS_cmp2, iS_tup, iS_lst, iS_dct, iS_idx, iS_slc, iS_attr, iS_call, iS_make, iS_blt, iS_isi, iS_meth, iS_lc, cnd_t, cnd_f, envO_z, envO_n, envO_c, ofO_some, idxI_l, idxI_k, idx_ri, idxS_d, idx_rs, idx_ti, fldO_i, fld_r, eq_d, ne_d, lt_d, le_d, gt_d, ge_d, is_d, isnot_d, in_d, notin_d, map_some, eqA_int, eqA_bl, len_tup, lenO_l, lenO_k, lenO_d, len_ref, Ab.int_int, Ab.add_int, Ab.sub_int, max_int, min_int, setI_ri, Bool.not_true, Bool.not_false, W_ok, W_bad, WS_fl, W_bind, WS_st, sq_nx, sq_rt, sq_bk, sq_ct, WS_seq, en_nx, en_rt, W_end, tn_nx, tn_ct, tn_bk, tn_rt, atI0, atI1, atI2, atI3, W_ofO, setO_0, setO_1, setO_2, get_set_s, get_set_n, get_push_lt, lt_push, lt_set, ne_push, push_n', set_n', get_push_self, mulR, Ab.mod_int, Int.reduceLT, Int.reduceNeg, Int.reduceEq, lstA_ok, tupA_ok, lcE_ok, wipeA, List.set_cons_zero, List.set_cons_succ, ev_lc, ev_lc2, ev_dc, dcE_ok, ev_sup, src_e, src_r, src_en, srcV_t, srcV_s, srcV_r, srcO_l, rngV_n, list_r, list_t, tuple_r, tuple_t, seqO_l, seqO_k, listO_s, tupO_s, List.length_cons, List.length_nil, Nat.reduceAdd, Nat.reduceLeDiff, ne_eq, not_false_eq_true, Option.some.injEq, exists_eq_left', hr])
    · (try simp only [ok_bind, bad_bind, ok_st, nx_seq, rt_seq, bk_seq, ct_seq, nx_turn, ct_turn, bk_turn, rt_turn, ok_nox, exs_nil, exs_cons, slot_z, slot_s, ev_cst, ev_var, ev_gf, ev_gk, ev_gc, ev_bin, negA_int, ev_neg, tst_bl, ev_not, ev_and, ev_or, ev_ite, ev_cmp, ev_cmp2, rb_some, ch2_t, ch2_f, ev_tup, ev_lst, ev_idx, ev_slc, ev_attr, ev_call, ev_blt, ev_isi, ev_isiE, ev_xmk, ev_make, ev_meth, evL_nil, evL_cons, evS_nil, evS_star, evS_one, evO_none, evO_some, optA_int, ex_asg, ex_expr, ex_ife, ex_for, ex_whl, ex_ret0, ex_ret, ex_pass, ex_brk, ex_cnt, putS_z, putS_s, asg_nm, asg_tp, asgL_nil, asgL_cons, asg_fld, asg_ix, endF_nx, endF_rt, iS_cst, iS_var, iS_gc, iS_gf, iS_gk, iS_bin, iS_neg, iS_not, iS_and, iS_or, iS_ite, iS_cmp, iS_cmp2, iS_tup, iS_lst, iS_dct, iS_idx, iS_slc, iS_attr, iS_call, iS_make, iS_blt, iS_isi, iS_meth, iS_lc, cnd_t, cnd_f, envO_z, envO_n, envO_c, ofO_some, idxI_l, idxI_k, idx_ri, idxS_d, idx_rs, idx_ti, fldO_i, fld_r, eq_d, ne_d, lt_d, le_d, gt_d, ge_d, is_d, isnot_d, in_d, notin_d, map_some, eqA_int, eqA_bl, len_tup, lenO_l, lenO_k, lenO_d, len_ref, Ab.int_int, Ab.add_int, Ab.sub_int, max_int, min_int, setI_ri, Bool.not_true, Bool.not_false, W_ok, W_bad, WS_fl, W_bind, WS_st, sq_nx, sq_rt, sq_bk, sq_ct, WS_seq, en_nx, en_rt, W_end, tn_nx, tn_ct, tn_bk, tn_rt, atI0, atI1, atI2, atI3, W_ofO, setO_0, setO_1, setO_2, get_set_s, get_set_n, get_push_lt, lt_push, lt_set, ne_push, push_n', set_n', get_push_self, mulR, Ab.mod_int, Int.reduceLT, Int.reduceNeg, Int.reduceEq, lstA_ok, tupA_ok, lcE_ok, wipeA, List.set_cons_zero, List.set_cons_succ, ev_lc, ev_lc2, ev_dc, dcE_ok, ev_sup, src_e, src_r, src_en, srcV_t, srcV_s, srcV_r, srcO_l, rngV_n, list_r, list_t, tuple_r, tuple_t, seqO_l, seqO_k, listO_s, tupO_s, List.length_cons, List.length_nil, Nat.reduceAdd, Nat.reduceLeDiff, ne_eq, not_false_eq_true, Option.some.injEq, exists_eq_left', Ne.symm hne, h2])
    · rw [Int.fdiv_eq_ediv_of_nonneg _ (by omega)]; exact Int.ediv_nonneg h4 (by omega)
end La

namespace La
open PySem PySem.Spec PyProof.Rows L2 Ab
section
variable {P : Pe} {d n : Nat} {S : Hs} {Q : AV → Hs → Prop}
/-- a word that is shown -/
def Shw (w : AV) : Prop := ∃ y0 y1, (∀ S, fmtA false w S = some y0) ∧ (∀ S, fmtA true w S = some y1) ∧ y0.length ≤ 1000 ∧ y1.length ≤ 1000
/-- a list or tuple that is read -/
def Sqx (S : Hs) (s : AV) (xs : List AV) : Prop := ∀ S', Ext S S' → seqOf S' s = some xs
theorem Sqx.ext {s : AV} {xs : List AV} {S' : Hs} (h : Sqx S s xs) (x : Ext S S') : Sqx S' s xs := fun S2 x2 => h S2 (x.trans x2)
theorem ev_jnF {r : Bool} {s y : Str} {q : Nat} {w : AV} {vs : List AV} {N : Nat} (h : fmtA r w S = some y) (hs : s.length ≤ 1000) (hy : y.length ≤ 1000) : ev P 398 (.jn [.cst (.str s), .fmt r (.var 1)]) (envO (.ref q :: w :: vs) (N + 2)) S = .ok (.str (Str.empty ++ s ++ y)) S := by
  have e1 : okLen (Str.empty ++ s).length = true := okLen_s (by rw [strLen_append]; show 0 + s.length ≤ _; omega)
  have e2 : okLen (Str.empty ++ s ++ y).length = true := okLen_s (by rw [strLen_append, strLen_append]; show 0 + s.length + y.length ≤ _; omega)
  have e3 : ev P 397 (.fmt r (.var 1)) (envO (.ref q :: w :: vs) (N + 2)) S = .ok (.str y) S := by
    rw [ev_fmt]
    show fmtR r w S = _
    unfold fmtR
    rw [h]
  rw [ev_jn, evJ_cons, ev_cst, ok_bind, jnS_str _ _ _ e1, evJ_cons, e3, ok_bind, jnS_str _ _ _ e2]
  rfl
theorem ev_tupF {q : Nat} {s : AV} {vs xs : List AV} {N : Nat} (h : seqOf S s = some xs) : ev P 399 (.blt .tuple [.var 1]) (envO (.ref q :: s :: vs) (N + 2)) S = .ok (.tup xs) S := by
  show (match seqOf S s with
    | some ys => Rs.ok (AV.tup ys) S
    | none => .bad) = _
  rw [h]
theorem ev_tupG {q : Nat} {w s : AV} {vs xs : List AV} {N : Nat} (h : seqOf S s = some xs) : ev P 399 (.blt .tuple [.var 2]) (envO (.ref q :: w :: s :: vs) (N + 3)) S = .ok (.tup xs) S := by
  show (match seqOf S s with
    | some ys => Rs.ok (AV.tup ys) S
    | none => .bad) = _
  rw [h]
theorem m2 (q : ∀ v S', Ext S S' → Xo S' v 2 [] → Q v S') : W (xmkA ⟨G, callN G fbs (d + 1)⟩ 2 [] S) Q := mk0 rfl rfl f9 (Nat.le_refl _) rfl (fun _ _ _ => rfl) q
theorem m3 (q : ∀ v S', Ext S S' → Xo S' v 3 [] → Q v S') : W (xmkA ⟨G, callN G fbs (d + 1)⟩ 3 [] S) Q := mk0 rfl rfl f10 (Nat.le_refl _) rfl (fun _ _ _ => rfl) q
theorem m4 (q : ∀ v S', Ext S S' → Xo S' v 4 [] → Q v S') : W (xmkA ⟨G, callN G fbs (d + 1)⟩ 4 [] S) Q := mk0 rfl rfl f11 (Nat.le_refl _) rfl (fun _ _ _ => rfl) q
theorem m5 (q : ∀ v S', Ext S S' → Xo S' v 5 [] → Q v S') : W (xmkA ⟨G, callN G fbs (d + 1)⟩ 5 [] S) Q := mk0 rfl rfl f12 (Nat.le_refl _) rfl (fun _ _ _ => rfl) q
theorem m6 (q : ∀ v S', Ext S S' → Xo S' v 6 [] → Q v S') : W (xmkA ⟨G, callN G fbs (d + 1)⟩ 6 [] S) Q := mk0 rfl rfl f13 (Nat.le_refl _) rfl (fun _ _ _ => rfl) q
theorem m7 (q : ∀ v S', Ext S S' → Xo S' v 7 [] → Q v S') : W (xmkA ⟨G, callN G fbs (d + 1)⟩ 7 [] S) Q := mk0 rfl rfl f14 (Nat.le_refl _) rfl (fun _ _ _ => rfl) q
theorem m8 (q : ∀ v S', Ext S S' → Xo S' v 8 [] → Q v S') : W (xmkA ⟨G, callN G fbs (d + 1)⟩ 8 [] S) Q := mk0 rfl rfl f15 (Nat.le_refl _) rfl (fun _ _ _ => rfl) q
theorem m9 (q : ∀ v S', Ext S S' → Xo S' v 9 [] → Q v S') : W (xmkA ⟨G, callN G fbs (d + 1)⟩ 9 [] S) Q := mk0 rfl rfl f16 (Nat.le_refl _) rfl (fun _ _ _ => rfl) q
theorem m10 (q : ∀ v S', Ext S S' → Xo S' v 10 [] → Q v S') : W (xmkA ⟨G, callN G fbs (d + 1)⟩ 10 [] S) Q := mk0 rfl rfl f17 (Nat.le_refl _) rfl (fun _ _ _ => rfl) q
theorem m11 (q : ∀ v S', Ext S S' → Xo S' v 11 [] → Q v S') : W (xmkA ⟨G, callN G fbs (d + 1)⟩ 11 [] S) Q := mk0 rfl rfl f18 (Nat.le_refl _) rfl (fun _ _ _ => rfl) q
theorem m12 (q : ∀ v S', Ext S S' → Xo S' v 12 [] → Q v S') : W (xmkA ⟨G, callN G fbs (d + 1)⟩ 12 [] S) Q := mk0 rfl rfl f19 (Nat.le_refl _) rfl (fun _ _ _ => rfl) q
theorem m13 {w s : AV} {xs : List AV} (hw : Shw w) (hs : Sqx S s xs) (q : ∀ v S', Ext S S' → Xo S' v 13 [(1, .tup xs), (0, w)] → Q v S') : W (xmkA ⟨G, callN G fbs (d + 1)⟩ 13 [w, s] S) Q := by
  obtain ⟨y0, y1, a0, a1, l0, l1⟩ := hw
  exact mk2 rfl rfl f20 (Nat.le_refl _) rfl rfl rfl (fun r S' _ => ev_jnF (a0 S') (by decide +kernel) l0) (fun _ _ _ => rfl) (fun r S' x => ev_tupG (hs S' x)) q
theorem m14 {s : AV} {xs : List AV} (hs : Sqx S s xs) (q : ∀ v S', Ext S S' → Xo S' v 14 [(1, .tup xs)] → Q v S') : W (xmkA ⟨G, callN G fbs (d + 1)⟩ 14 [s] S) Q := mk1 rfl rfl f21 (Nat.le_refl _) rfl rfl (fun _ _ _ => rfl) (fun r S' x => ev_tupF (hs S' x)) q
theorem m15 {s : AV} {xs : List AV} (hs : Sqx S s xs) (q : ∀ v S', Ext S S' → Xo S' v 15 [(1, .tup xs)] → Q v S') : W (xmkA ⟨G, callN G fbs (d + 1)⟩ 15 [s] S) Q := mk1 rfl rfl f22 (Nat.le_refl _) rfl rfl (fun _ _ _ => rfl) (fun r S' x => ev_tupF (hs S' x)) q
theorem m16 {w : AV} (hw : Shw w) (q : ∀ v S', Ext S S' → Xo S' v 16 [(2, w)] → Q v S') : W (xmkA ⟨G, callN G fbs (d + 1)⟩ 16 [w] S) Q := by
  obtain ⟨y0, y1, a0, a1, l0, l1⟩ := hw
  exact mk1 rfl rfl f23 (Nat.le_refl _) rfl rfl (fun r S' _ => ev_jnF (a1 S') (by decide +kernel) l1) (fun _ _ _ => rfl) q
theorem m17 {w : AV} (hw : Shw w) (q : ∀ v S', Ext S S' → Xo S' v 17 [(2, w)] → Q v S') : W (xmkA ⟨G, callN G fbs (d + 1)⟩ 17 [w] S) Q := by
  obtain ⟨y0, y1, a0, a1, l0, l1⟩ := hw
  exact mk1 rfl rfl f24 (Nat.le_refl _) rfl rfl (fun r S' _ => ev_jnF (a1 S') (by decide +kernel) l1) (fun _ _ _ => rfl) q
theorem m18 {w : AV} (hw : Shw w) (q : ∀ v S', Ext S S' → Xo S' v 18 [(2, w)] → Q v S') : W (xmkA ⟨G, callN G fbs (d + 1)⟩ 18 [w] S) Q := by
  obtain ⟨y0, y1, a0, a1, l0, l1⟩ := hw
  exact mk1 rfl rfl f25 (Nat.le_refl _) rfl rfl (fun r S' _ => ev_jnF (a1 S') (by decide +kernel) l1) (fun _ _ _ => rfl) q
theorem m19 {w : AV} (hw : Shw w) (q : ∀ v S', Ext S S' → Xo S' v 19 [(2, w)] → Q v S') : W (xmkA ⟨G, callN G fbs (d + 1)⟩ 19 [w] S) Q := by
  obtain ⟨y0, y1, a0, a1, l0, l1⟩ := hw
  exact mk1 rfl rfl f26 (Nat.le_refl _) rfl rfl (fun r S' _ => ev_jnF (a1 S') (by decide +kernel) l1) (fun _ _ _ => rfl) q
theorem m20 {w : AV} (hw : Shw w) (q : ∀ v S', Ext S S' → Xo S' v 20 [(2, w)] → Q v S') : W (xmkA ⟨G, callN G fbs (d + 1)⟩ 20 [w] S) Q := by
  obtain ⟨y0, y1, a0, a1, l0, l1⟩ := hw
  exact mk1 rfl rfl f27 (Nat.le_refl _) rfl rfl (fun r S' _ => ev_jnF (a1 S') (by decide +kernel) l1) (fun _ _ _ => rfl) q
theorem m21 {w : AV} (hw : Shw w) (q : ∀ v S', Ext S S' → Xo S' v 21 [(2, w)] → Q v S') : W (xmkA ⟨G, callN G fbs (d + 1)⟩ 21 [w] S) Q := by
  obtain ⟨y0, y1, a0, a1, l0, l1⟩ := hw
  exact mk1 rfl rfl f28 (Nat.le_refl _) rfl rfl (fun r S' _ => ev_jnF (a1 S') (by decide +kernel) l1) (fun _ _ _ => rfl) q
theorem m22 {s : AV} {xs : List AV} (hs : Sqx S s xs) (q : ∀ v S', Ext S S' → Xo S' v 22 [(3, .tup xs)] → Q v S') : W (xmkA ⟨G, callN G fbs (d + 1)⟩ 22 [s] S) Q := mk1 rfl rfl f29 (Nat.le_refl _) rfl rfl (fun _ _ _ => rfl) (fun r S' x => ev_tupF (hs S' x)) q
theorem m23 {s : AV} {xs : List AV} (hs : Sqx S s xs) (q : ∀ v S', Ext S S' → Xo S' v 23 [(3, .tup xs)] → Q v S') : W (xmkA ⟨G, callN G fbs (d + 1)⟩ 23 [s] S) Q := mk1 rfl rfl f30 (Nat.le_refl _) rfl rfl (fun _ _ _ => rfl) (fun r S' x => ev_tupF (hs S' x)) q
theorem m24 {s : AV} {xs : List AV} (hs : Sqx S s xs) (q : ∀ v S', Ext S S' → Xo S' v 24 [(3, .tup xs)] → Q v S') : W (xmkA ⟨G, callN G fbs (d + 1)⟩ 24 [s] S) Q := mk1 rfl rfl f31 (Nat.le_refl _) rfl rfl (fun _ _ _ => rfl) (fun r S' x => ev_tupF (hs S' x)) q
theorem m25 {w : AV} (hw : Shw w) (q : ∀ v S', Ext S S' → Xo S' v 25 [(4, w)] → Q v S') : W (xmkA ⟨G, callN G fbs (d + 1)⟩ 25 [w] S) Q := by
  obtain ⟨y0, y1, a0, a1, l0, l1⟩ := hw
  exact mk1 rfl rfl f32 (Nat.le_refl _) rfl rfl (fun r S' _ => ev_jnF (a0 S') (by decide +kernel) l0) (fun _ _ _ => rfl) q
theorem m26 {s : AV} {xs : List AV} (hs : Sqx S s xs) (q : ∀ v S', Ext S S' → Xo S' v 26 [(5, .tup xs)] → Q v S') : W (xmkA ⟨G, callN G fbs (d + 1)⟩ 26 [s] S) Q := mk1 rfl rfl f33 (Nat.le_refl _) rfl rfl (fun _ _ _ => rfl) (fun r S' x => ev_tupF (hs S' x)) q
theorem m27 {w : AV} (hw : Shw w) (q : ∀ v S', Ext S S' → Xo S' v 27 [(2, w)] → Q v S') : W (xmkA ⟨G, callN G fbs (d + 1)⟩ 27 [w] S) Q := by
  obtain ⟨y0, y1, a0, a1, l0, l1⟩ := hw
  exact mk1 rfl rfl f34 (Nat.le_refl _) rfl rfl (fun r S' _ => ev_jnF (a1 S') (by decide +kernel) l1) (fun _ _ _ => rfl) q
theorem m28 {w : AV} (hw : Shw w) (q : ∀ v S', Ext S S' → Xo S' v 28 [(2, w)] → Q v S') : W (xmkA ⟨G, callN G fbs (d + 1)⟩ 28 [w] S) Q := by
  obtain ⟨y0, y1, a0, a1, l0, l1⟩ := hw
  exact mk1 rfl rfl f35 (Nat.le_refl _) rfl rfl (fun r S' _ => ev_jnF (a1 S') (by decide +kernel) l1) (fun _ _ _ => rfl) q
theorem m29 {w : AV} (hw : Shw w) (q : ∀ v S', Ext S S' → Xo S' v 29 [(2, w)] → Q v S') : W (xmkA ⟨G, callN G fbs (d + 1)⟩ 29 [w] S) Q := by
  obtain ⟨y0, y1, a0, a1, l0, l1⟩ := hw
  exact mk1 rfl rfl f36 (Nat.le_refl _) rfl rfl (fun r S' _ => ev_jnF (a1 S') (by decide +kernel) l1) (fun _ _ _ => rfl) q
theorem m30 {w : AV} (hw : Shw w) (q : ∀ v S', Ext S S' → Xo S' v 30 [(2, w)] → Q v S') : W (xmkA ⟨G, callN G fbs (d + 1)⟩ 30 [w] S) Q := by
  obtain ⟨y0, y1, a0, a1, l0, l1⟩ := hw
  exact mk1 rfl rfl f37 (Nat.le_refl _) rfl rfl (fun r S' _ => ev_jnF (a1 S') (by decide +kernel) l1) (fun _ _ _ => rfl) q
theorem m31 {w : AV} (hw : Shw w) (q : ∀ v S', Ext S S' → Xo S' v 31 [(6, w)] → Q v S') : W (xmkA ⟨G, callN G fbs (d + 1)⟩ 31 [w] S) Q := by
  obtain ⟨y0, y1, a0, a1, l0, l1⟩ := hw
  exact mk1 rfl rfl f38 (Nat.le_refl _) rfl rfl (fun r S' _ => ev_jnF (a1 S') (by decide +kernel) l1) (fun _ _ _ => rfl) q
end
end La

namespace La
open PySem PySem.Spec PyProof.Rows L2 Ab
section
variable {d n k : Nat} {S : Hs} {Q : AV → Hs → Prop}
theorem isTy_c {j : Nat} {c c' : Cl} (hc : G.cls[k]? = some c) (hj : G.cls[j]? = some c') : isTy G (.c k) (.c j) = some (c.sup.contains j) := by
  unfold isTy
  simp only [hc, hj]
theorem isTy_b {c : Cl} {u : Bty} (hc : G.cls[k]? = some c) : isTy G (.c k) (.b u) = some ((decide (u = .verr) && decide (c.xb = 1)) || (decide (u = .lerr) && decide (c.xb = 2))) := by
  unfold isTy
  simp only [hc]
theorem ext_push {S1 : Hs} {o : AO} (h : Ext S S1) : Ext S (S1.push o) := h.trans Ab.Fr.push
def kL : List Nat := [2, 3, 4, 5, 6, 7, 8, 9, 10, 11, 12, 13, 15, 14, 16, 17, 18, 19, 20, 21, 22, 23, 24, 25, 26, 27, 28, 29, 30, 31]
def kl (c : Cl) : List AV := kL.map fun j => .bl (c.sup.contains j)
def bl4 (c : Cl) : List AV := [.bl (c.sup.contains 0), .bl (decide (c.xb = 1)), .bl (c.sup.contains 1), .bl (decide (c.xb = 2))]
theorem kinds_ok {v : AV} {fs : List (Nat × AV)} {c : Cl} (hx : Xo S v k fs) (hc : G.cls[k]? = some c) (hb : c.xb ≠ 0) (q : ∀ r S', Ext S S' → S'.get r = some (.lst (kl c)) → Q (.ref r) S') : W (callN G fbs (d + 1) 3 [v] S) Q := by
  have h2 : ∀ S', Ext S S' → isiE G S' v [.c 2] = some (c.sup.contains 2) := fun S' x => isi_x (hx.ext x) hc hb (isTy_c hc rfl)
  have h3 : ∀ S', Ext S S' → isiE G S' v [.c 3] = some (c.sup.contains 3) := fun S' x => isi_x (hx.ext x) hc hb (isTy_c hc rfl)
  have h4 : ∀ S', Ext S S' → isiE G S' v [.c 4] = some (c.sup.contains 4) := fun S' x => isi_x (hx.ext x) hc hb (isTy_c hc rfl)
  have h5 : ∀ S', Ext S S' → isiE G S' v [.c 5] = some (c.sup.contains 5) := fun S' x => isi_x (hx.ext x) hc hb (isTy_c hc rfl)
  have h6 : ∀ S', Ext S S' → isiE G S' v [.c 6] = some (c.sup.contains 6) := fun S' x => isi_x (hx.ext x) hc hb (isTy_c hc rfl)
  have h7 : ∀ S', Ext S S' → isiE G S' v [.c 7] = some (c.sup.contains 7) := fun S' x => isi_x (hx.ext x) hc hb (isTy_c hc rfl)
  have h8 : ∀ S', Ext S S' → isiE G S' v [.c 8] = some (c.sup.contains 8) := fun S' x => isi_x (hx.ext x) hc hb (isTy_c hc rfl)
  have h9 : ∀ S', Ext S S' → isiE G S' v [.c 9] = some (c.sup.contains 9) := fun S' x => isi_x (hx.ext x) hc hb (isTy_c hc rfl)
  have h10 : ∀ S', Ext S S' → isiE G S' v [.c 10] = some (c.sup.contains 10) := fun S' x => isi_x (hx.ext x) hc hb (isTy_c hc rfl)
  have h11 : ∀ S', Ext S S' → isiE G S' v [.c 11] = some (c.sup.contains 11) := fun S' x => isi_x (hx.ext x) hc hb (isTy_c hc rfl)
  have h12 : ∀ S', Ext S S' → isiE G S' v [.c 12] = some (c.sup.contains 12) := fun S' x => isi_x (hx.ext x) hc hb (isTy_c hc rfl)
  have h13 : ∀ S', Ext S S' → isiE G S' v [.c 13] = some (c.sup.contains 13) := fun S' x => isi_x (hx.ext x) hc hb (isTy_c hc rfl)
  have h15 : ∀ S', Ext S S' → isiE G S' v [.c 15] = some (c.sup.contains 15) := fun S' x => isi_x (hx.ext x) hc hb (isTy_c hc rfl)
  have h14 : ∀ S', Ext S S' → isiE G S' v [.c 14] = some (c.sup.contains 14) := fun S' x => isi_x (hx.ext x) hc hb (isTy_c hc rfl)
  have h16 : ∀ S', Ext S S' → isiE G S' v [.c 16] = some (c.sup.contains 16) := fun S' x => isi_x (hx.ext x) hc hb (isTy_c hc rfl)
  have h17 : ∀ S', Ext S S' → isiE G S' v [.c 17] = some (c.sup.contains 17) := fun S' x => isi_x (hx.ext x) hc hb (isTy_c hc rfl)
  have h18 : ∀ S', Ext S S' → isiE G S' v [.c 18] = some (c.sup.contains 18) := fun S' x => isi_x (hx.ext x) hc hb (isTy_c hc rfl)
  have h19 : ∀ S', Ext S S' → isiE G S' v [.c 19] = some (c.sup.contains 19) := fun S' x => isi_x (hx.ext x) hc hb (isTy_c hc rfl)
  have h20 : ∀ S', Ext S S' → isiE G S' v [.c 20] = some (c.sup.contains 20) := fun S' x => isi_x (hx.ext x) hc hb (isTy_c hc rfl)
  have h21 : ∀ S', Ext S S' → isiE G S' v [.c 21] = some (c.sup.contains 21) := fun S' x => isi_x (hx.ext x) hc hb (isTy_c hc rfl)
  have h22 : ∀ S', Ext S S' → isiE G S' v [.c 22] = some (c.sup.contains 22) := fun S' x => isi_x (hx.ext x) hc hb (isTy_c hc rfl)
  have h23 : ∀ S', Ext S S' → isiE G S' v [.c 23] = some (c.sup.contains 23) := fun S' x => isi_x (hx.ext x) hc hb (isTy_c hc rfl)
  have h24 : ∀ S', Ext S S' → isiE G S' v [.c 24] = some (c.sup.contains 24) := fun S' x => isi_x (hx.ext x) hc hb (isTy_c hc rfl)
  have h25 : ∀ S', Ext S S' → isiE G S' v [.c 25] = some (c.sup.contains 25) := fun S' x => isi_x (hx.ext x) hc hb (isTy_c hc rfl)
  have h26 : ∀ S', Ext S S' → isiE G S' v [.c 26] = some (c.sup.contains 26) := fun S' x => isi_x (hx.ext x) hc hb (isTy_c hc rfl)
  have h27 : ∀ S', Ext S S' → isiE G S' v [.c 27] = some (c.sup.contains 27) := fun S' x => isi_x (hx.ext x) hc hb (isTy_c hc rfl)
  have h28 : ∀ S', Ext S S' → isiE G S' v [.c 28] = some (c.sup.contains 28) := fun S' x => isi_x (hx.ext x) hc hb (isTy_c hc rfl)
  have h29 : ∀ S', Ext S S' → isiE G S' v [.c 29] = some (c.sup.contains 29) := fun S' x => isi_x (hx.ext x) hc hb (isTy_c hc rfl)
  have h30 : ∀ S', Ext S S' → isiE G S' v [.c 30] = some (c.sup.contains 30) := fun S' x => isi_x (hx.ext x) hc hb (isTy_c hc rfl)
  have h31 : ∀ S', Ext S S' → isiE G S' v [.c 31] = some (c.sup.contains 31) := fun S' x => isi_x (hx.ext x) hc hb (isTy_c hc rfl)
  have x0 : Ext S S := Ab.Fr.refl
  refine W_call f3 rfl (by decide) rfl ?_
  unfold b3
  (try simp (config := { maxDischargeDepth := 40 }) only [ok_bind, bad_bind, ok_st, nx_seq, rt_seq, bk_seq, ct_seq, nx_turn, ct_turn, bk_turn, rt_turn, ok_nox, exs_nil, exs_cons, slot_z, slot_s, ev_cst, ev_var, ev_gf, ev_gk, ev_gc, ev_bin, negA_int, ev_neg, tst_bl, ev_not, ev_and, ev_or, ev_ite, ev_cmp, ev_cmp2, rb_some, ch2_t, ch2_f, ev_tup, ev_lst, ev_idx, ev_slc, ev_attr, ev_call, ev_blt, ev_isi, ev_isiE, ev_xmk, ev_make, ev_meth, evL_nil, evL_cons, evS_nil, evS_star, evS_one, evO_none, evO_some, optA_int, ex_asg, ex_expr, ex_ife, ex_for, ex_whl, ex_ret0, ex_ret, ex_pass, ex_brk, ex_cnt, putS_z, putS_s, asg_nm, asg_tp, asgL_nil, asgL_cons, asg_fld, asg_ix, endF_nx, endF_rt, iS_cst, iS_var, iS_gc, iS_gf, iS_gk, iS_bin, iS_neg, iS_not, iS_and, iS_or, iS_ite, iS_cmp, iS_cmp2, iS_tup, iS_lst, iS_dct, iS_idx, iS_slc, iS_attr, iS_call, iS_make, iS_blt, iS_isi, iS_meth, iS_lc, cnd_t, cnd_f, envO_z, envO_n, envO_c, ofO_some, idxI_l, idxI_k, idx_ri, idxS_d, idx_rs, idx_ti, fldO_i, fld_r, eq_d, ne_d, lt_d, le_d, gt_d, ge_d, is_d, isnot_d, in_d, notin_d, map_some, eqA_int, eqA_bl, len_tup, lenO_l, lenO_k, lenO_d, len_ref, Ab.int_int, Ab.add_int, Ab.sub_int, max_int, min_int, setI_ri, Bool.not_true, Bool.not_false, W_ok, W_bad, WS_fl, W_bind, WS_st, sq_nx, sq_rt, sq_bk, sq_ct, WS_seq, en_nx, en_rt, W_end, tn_nx, tn_ct, tn_bk, tn_rt, atI0, atI1, atI2, atI3, W_ofO, setO_0, setO_1, setO_2, get_set_s, get_set_n, get_push_lt, lt_push, lt_set, ne_push, push_n', set_n', get_push_self, mulR, Ab.mod_int, Int.reduceLT, Int.reduceNeg, Int.reduceEq, lstA_ok, tupA_ok, lcE_ok, wipeA, List.set_cons_zero, List.set_cons_succ, ev_lc, ev_lc2, ev_dc, dcE_ok, ev_sup, src_e, src_r, src_en, srcV_t, srcV_s, srcV_r, srcO_l, rngV_n, list_r, list_t, tuple_r, tuple_t, seqO_l, seqO_k, listO_s, tupO_s, List.length_cons, List.length_nil, Nat.reduceAdd, Nat.reduceLeDiff, ne_eq, not_false_eq_true, Option.some.injEq, exists_eq_left', h2, h3, h4, h5, h6, h7, h8, h9, h10, h11, h12, h13, h15, h14, h16, h17, h18, h19, h20, h21, h22, h23, h24, h25, h26, h27, h28, h29, h30, h31, x0, ext_push, cat_rr, catO_l, get_push_eq, Nat.lt_add_right_iff_pos, Nat.add_lt_add_iff_left, Nat.reduceLT, Nat.add_assoc, Nat.reduceAdd, Nat.add_left_cancel_iff, List.cons_append, List.nil_append, List.length_cons, List.length_nil, Nat.reduceLeDiff, Nat.zero_add, Nat.lt_irrefl, Nat.reduceEqDiff])
  refine q _ _ ?_ (get_push_self _)
  repeat' first | exact x0 | refine ext_push ?_
theorem bases_ok {v : AV} {fs : List (Nat × AV)} {c : Cl} (hx : Xo S v k fs) (hc : G.cls[k]? = some c) (hb : c.xb ≠ 0) (q : ∀ r S', Ext S S' → S'.get r = some (.lst (bl4 c)) → Q (.ref r) S') : W (callN G fbs (d + 1) 4 [v] S) Q := by
  have h0 : ∀ S', Ext S S' → isiE G S' v [.c 0] = some (c.sup.contains 0) := fun S' x => isi_x (hx.ext x) hc hb (isTy_c hc rfl)
  have h1 : ∀ S', Ext S S' → isiE G S' v [.c 1] = some (c.sup.contains 1) := fun S' x => isi_x (hx.ext x) hc hb (isTy_c hc rfl)
  have h2 : ∀ S', Ext S S' → isiE G S' v [.b .verr] = some (decide (c.xb = 1)) := fun S' x => isi_x (hx.ext x) hc hb ((isTy_b hc).trans (by simp))
  have h3 : ∀ S', Ext S S' → isiE G S' v [.b .lerr] = some (decide (c.xb = 2)) := fun S' x => isi_x (hx.ext x) hc hb ((isTy_b hc).trans (by simp))
  have x0 : Ext S S := Ab.Fr.refl
  refine W_call f4 rfl (by decide) rfl ?_
  unfold b4
  (try simp (config := { maxDischargeDepth := 40 }) only [ok_bind, bad_bind, ok_st, nx_seq, rt_seq, bk_seq, ct_seq, nx_turn, ct_turn, bk_turn, rt_turn, ok_nox, exs_nil, exs_cons, slot_z, slot_s, ev_cst, ev_var, ev_gf, ev_gk, ev_gc, ev_bin, negA_int, ev_neg, tst_bl, ev_not, ev_and, ev_or, ev_ite, ev_cmp, ev_cmp2, rb_some, ch2_t, ch2_f, ev_tup, ev_lst, ev_idx, ev_slc, ev_attr, ev_call, ev_blt, ev_isi, ev_isiE, ev_xmk, ev_make, ev_meth, evL_nil, evL_cons, evS_nil, evS_star, evS_one, evO_none, evO_some, optA_int, ex_asg, ex_expr, ex_ife, ex_for, ex_whl, ex_ret0, ex_ret, ex_pass, ex_brk, ex_cnt, putS_z, putS_s, asg_nm, asg_tp, asgL_nil, asgL_cons, asg_fld, asg_ix, endF_nx, endF_rt, iS_cst, iS_var, iS_gc, iS_gf, iS_gk, iS_bin, iS_neg, iS_not, iS_and, iS_or, iS_ite, iS_cmp, iS_cmp2, iS_tup, iS_lst, iS_dct, iS_idx, iS_slc, iS_attr, iS_call, iS_make, iS_blt, iS_isi, iS_meth, iS_lc, cnd_t, cnd_f, envO_z, envO_n, envO_c, ofO_some, idxI_l, idxI_k, idx_ri, idxS_d, idx_rs, idx_ti, fldO_i, fld_r, eq_d, ne_d, lt_d, le_d, gt_d, ge_d, is_d, isnot_d, in_d, notin_d, map_some, eqA_int, eqA_bl, len_tup, lenO_l, lenO_k, lenO_d, len_ref, Ab.int_int, Ab.add_int, Ab.sub_int, max_int, min_int, setI_ri, Bool.not_true, Bool.not_false, W_ok, W_bad, WS_fl, W_bind, WS_st, sq_nx, sq_rt, sq_bk, sq_ct, WS_seq, en_nx, en_rt, W_end, tn_nx, tn_ct, tn_bk, tn_rt, atI0, atI1, atI2, atI3, W_ofO, setO_0, setO_1, setO_2, get_set_s, get_set_n, get_push_lt, lt_push, lt_set, ne_push, push_n', set_n', get_push_self, mulR, Ab.mod_int, Int.reduceLT, Int.reduceNeg, Int.reduceEq, lstA_ok, tupA_ok, lcE_ok, wipeA, List.set_cons_zero, List.set_cons_succ, ev_lc, ev_lc2, ev_dc, dcE_ok, ev_sup, src_e, src_r, src_en, srcV_t, srcV_s, srcV_r, srcO_l, rngV_n, list_r, list_t, tuple_r, tuple_t, seqO_l, seqO_k, listO_s, tupO_s, List.length_cons, List.length_nil, Nat.reduceAdd, Nat.reduceLeDiff, ne_eq, not_false_eq_true, Option.some.injEq, exists_eq_left', h0, h1, h2, h3, x0, ext_push, cat_rr, catO_l, get_push_eq, Nat.lt_add_right_iff_pos, Nat.add_lt_add_iff_left, Nat.reduceLT, Nat.add_assoc, Nat.reduceAdd, Nat.add_left_cancel_iff, List.cons_append, List.nil_append, List.length_cons, List.length_nil, Nat.reduceLeDiff, Nat.zero_add, Nat.lt_irrefl, Nat.reduceEqDiff])
  refine q _ _ ?_ (get_push_self _)
  repeat' first | exact x0 | refine ext_push ?_
end
end La

namespace La
open PySem PySem.Spec PyProof.Rows L2 Ab
section
variable {d n k : Nat} {S S' : Hs} {Q : AV → Hs → Prop}
/-- exceptions, one behind the other -/
def Xs (S : Hs) : List AV → List (Nat × List (Nat × AV)) → Prop
  | [], [] => True
  | v :: vs, p :: ps => Xo S v p.1 p.2 ∧ Xs S vs ps
  | _, _ => False
theorem Xs.ext : ∀ {vs : List AV} {ps : List (Nat × List (Nat × AV))}, Xs S vs ps → Ext S S' → Xs S' vs ps
  | [], [], _, _ => trivial
  | _ :: _, _ :: _, h, x => ⟨h.1.ext x, Xs.ext h.2 x⟩
  | [], _ :: _, h, _ => h.elim
  | _ :: _, [], h, _ => h.elim
theorem Xs.append : ∀ {vs ws : List AV} {ps qs : List (Nat × List (Nat × AV))}, Xs S vs ps → Xs S ws qs → Xs S (vs ++ ws) (ps ++ qs)
  | [], _, [], _, _, h => h
  | _ :: _, _, _ :: _, _, h, g => ⟨h.1, Xs.append h.2 g⟩
  | [], _, _ :: _, _, h, _ => h.elim
  | _ :: _, _, [], _, h, _ => h.elim
theorem Xs.len : ∀ {vs : List AV} {ps : List (Nat × List (Nat × AV))}, Xs S vs ps → vs.length = ps.length
  | [], [], _ => rfl
  | _ :: _, _ :: _, h => by rw [List.length_cons, List.length_cons, Xs.len h.2]
  | [], _ :: _, h => h.elim
  | _ :: _, [], h => h.elim
theorem Xs.get : ∀ {vs : List AV} {ps : List (Nat × List (Nat × AV))} {i : Nat} {p : Nat × List (Nat × AV)}, Xs S vs ps → ps[i]? = some p → ∃ v, vs[i]? = some v ∧ Xo S v p.1 p.2
  | [], [], _, _, _, e => by simp at e
  | v :: _, _ :: _, 0, _, h, e => by
    simp at e; subst e
    exact ⟨v, rfl, h.1⟩
  | _ :: _, _ :: _, i + 1, _, h, e => by
    obtain ⟨v, h1, h2⟩ := Xs.get (i := i) h.2 (by simpa using e)
    exact ⟨v, by simpa using h1, h2⟩
  | [], _ :: _, _, _, h, _ => h.elim
  | _ :: _, [], _, _, h, _ => h.elim
def plainL : List (Nat × List (Nat × AV)) := [(2, []), (3, []), (4, []), (5, []), (6, []), (7, []), (8, []), (9, []), (10, []), (11, []), (12, [])]
theorem plain_ok (q : ∀ r S' vs, Ext S S' → S'.get r = some (.lst vs) → Xs S' vs plainL → Q (.ref r) S') : W (callN G fbs (d + 2) 5 [] S) Q := by
  refine W_call f5 rfl (by decide) rfl ?_
  unfold b5
  (try simp (config := { maxDischargeDepth := 40 }) only [ok_bind, bad_bind, ok_st, nx_seq, rt_seq, bk_seq, ct_seq, nx_turn, ct_turn, bk_turn, rt_turn, ok_nox, exs_nil, exs_cons, slot_z, slot_s, ev_cst, ev_var, ev_gf, ev_gk, ev_gc, ev_bin, negA_int, ev_neg, tst_bl, ev_not, ev_and, ev_or, ev_ite, ev_cmp, ev_cmp2, rb_some, ch2_t, ch2_f, ev_tup, ev_lst, ev_idx, ev_slc, ev_attr, ev_call, ev_blt, ev_isi, ev_isiE, ev_xmk, ns_xmk, ev_make, ev_meth, evL_nil, evL_cons, evS_nil, evS_star, evS_one, evO_none, evO_some, optA_int, ex_asg, ex_expr, ex_ife, ex_for, ex_whl, ex_ret0, ex_ret, ex_pass, ex_brk, ex_cnt, putS_z, putS_s, asg_nm, asg_tp, asgL_nil, asgL_cons, asg_fld, asg_ix, endF_nx, endF_rt, iS_cst, iS_var, iS_gc, iS_gf, iS_gk, iS_bin, iS_neg, iS_not, iS_and, iS_or, iS_ite, iS_cmp, iS_cmp2, iS_tup, iS_lst, iS_dct, iS_idx, iS_slc, iS_attr, iS_call, iS_make, iS_blt, iS_isi, iS_meth, iS_lc, cnd_t, cnd_f, envO_z, envO_n, envO_c, ofO_some, idxI_l, idxI_k, idx_ri, idxS_d, idx_rs, idx_ti, fldO_i, fld_r, eq_d, ne_d, lt_d, le_d, gt_d, ge_d, is_d, isnot_d, in_d, notin_d, map_some, eqA_int, eqA_bl, len_tup, lenO_l, lenO_k, lenO_d, len_ref, Ab.int_int, Ab.add_int, Ab.sub_int, max_int, min_int, setI_ri, Bool.not_true, Bool.not_false, W_ok, W_bad, WS_fl, W_bind, WS_st, sq_nx, sq_rt, sq_bk, sq_ct, WS_seq, en_nx, en_rt, W_end, tn_nx, tn_ct, tn_bk, tn_rt, atI0, atI1, atI2, atI3, W_ofO, setO_0, setO_1, setO_2, get_set_s, get_set_n, get_push_lt, lt_push, lt_set, ne_push, push_n', set_n', get_push_self, mulR, Ab.mod_int, Int.reduceLT, Int.reduceNeg, Int.reduceEq, lstA_ok, tupA_ok, lcE_ok, wipeA, List.set_cons_zero, List.set_cons_succ, ev_lc, ev_lc2, ev_dc, dcE_ok, ev_sup, src_e, src_r, src_en, srcV_t, srcV_s, srcV_r, srcO_l, rngV_n, list_r, list_t, tuple_r, tuple_t, seqO_l, seqO_k, listO_s, tupO_s, List.length_cons, List.length_nil, Nat.reduceAdd, Nat.reduceLeDiff, ne_eq, not_false_eq_true, Option.some.injEq, exists_eq_left'])
  refine m2 fun v2 S2 x2 o2 => ?_
  refine m3 fun v3 S3 x3 o3 => ?_
  refine m4 fun v4 S4 x4 o4 => ?_
  refine m5 fun v5 S5 x5 o5 => ?_
  refine m6 fun v6 S6 x6 o6 => ?_
  refine m7 fun v7 S7 x7 o7 => ?_
  (try simp (config := { maxDischargeDepth := 40 }) only [ok_bind, bad_bind, ok_st, nx_seq, rt_seq, bk_seq, ct_seq, nx_turn, ct_turn, bk_turn, rt_turn, ok_nox, exs_nil, exs_cons, slot_z, slot_s, ev_cst, ev_var, ev_gf, ev_gk, ev_gc, ev_bin, negA_int, ev_neg, tst_bl, ev_not, ev_and, ev_or, ev_ite, ev_cmp, ev_cmp2, rb_some, ch2_t, ch2_f, ev_tup, ev_lst, ev_idx, ev_slc, ev_attr, ev_call, ev_blt, ev_isi, ev_isiE, ev_xmk, ns_xmk, ev_make, ev_meth, evL_nil, evL_cons, evS_nil, evS_star, evS_one, evO_none, evO_some, optA_int, ex_asg, ex_expr, ex_ife, ex_for, ex_whl, ex_ret0, ex_ret, ex_pass, ex_brk, ex_cnt, putS_z, putS_s, asg_nm, asg_tp, asgL_nil, asgL_cons, asg_fld, asg_ix, endF_nx, endF_rt, iS_cst, iS_var, iS_gc, iS_gf, iS_gk, iS_bin, iS_neg, iS_not, iS_and, iS_or, iS_ite, iS_cmp, iS_cmp2, iS_tup, iS_lst, iS_dct, iS_idx, iS_slc, iS_attr, iS_call, iS_make, iS_blt, iS_isi, iS_meth, iS_lc, cnd_t, cnd_f, envO_z, envO_n, envO_c, ofO_some, idxI_l, idxI_k, idx_ri, idxS_d, idx_rs, idx_ti, fldO_i, fld_r, eq_d, ne_d, lt_d, le_d, gt_d, ge_d, is_d, isnot_d, in_d, notin_d, map_some, eqA_int, eqA_bl, len_tup, lenO_l, lenO_k, lenO_d, len_ref, Ab.int_int, Ab.add_int, Ab.sub_int, max_int, min_int, setI_ri, Bool.not_true, Bool.not_false, W_ok, W_bad, WS_fl, W_bind, WS_st, sq_nx, sq_rt, sq_bk, sq_ct, WS_seq, en_nx, en_rt, W_end, tn_nx, tn_ct, tn_bk, tn_rt, atI0, atI1, atI2, atI3, W_ofO, setO_0, setO_1, setO_2, get_set_s, get_set_n, get_push_lt, lt_push, lt_set, ne_push, push_n', set_n', get_push_self, mulR, Ab.mod_int, Int.reduceLT, Int.reduceNeg, Int.reduceEq, lstA_ok, tupA_ok, lcE_ok, wipeA, List.set_cons_zero, List.set_cons_succ, ev_lc, ev_lc2, ev_dc, dcE_ok, ev_sup, src_e, src_r, src_en, srcV_t, srcV_s, srcV_r, srcO_l, rngV_n, list_r, list_t, tuple_r, tuple_t, seqO_l, seqO_k, listO_s, tupO_s, List.length_cons, List.length_nil, Nat.reduceAdd, Nat.reduceLeDiff, ne_eq, not_false_eq_true, Option.some.injEq, exists_eq_left'])
  refine m8 fun v8 S8 x8 o8 => ?_
  refine m9 fun v9 S9 x9 o9 => ?_
  refine m10 fun v10 S10 x10 o10 => ?_
  refine m11 fun v11 S11 x11 o11 => ?_
  refine m12 fun v12 S12 x12 o12 => ?_
  have g7 : S12.get S7.n = some (.lst [v2, v3, v4, v5, v6, v7]) := Ext.at (x8.trans (x9.trans (x10.trans (x11.trans x12)))) (get_push_self _)
  have lt7 := Hs.lt_of_get g7
  (try simp (config := { maxDischargeDepth := 40 }) only [ok_bind, bad_bind, ok_st, nx_seq, rt_seq, bk_seq, ct_seq, nx_turn, ct_turn, bk_turn, rt_turn, ok_nox, exs_nil, exs_cons, slot_z, slot_s, ev_cst, ev_var, ev_gf, ev_gk, ev_gc, ev_bin, negA_int, ev_neg, tst_bl, ev_not, ev_and, ev_or, ev_ite, ev_cmp, ev_cmp2, rb_some, ch2_t, ch2_f, ev_tup, ev_lst, ev_idx, ev_slc, ev_attr, ev_call, ev_blt, ev_isi, ev_isiE, ev_xmk, ns_xmk, ev_make, ev_meth, evL_nil, evL_cons, evS_nil, evS_star, evS_one, evO_none, evO_some, optA_int, ex_asg, ex_expr, ex_ife, ex_for, ex_whl, ex_ret0, ex_ret, ex_pass, ex_brk, ex_cnt, putS_z, putS_s, asg_nm, asg_tp, asgL_nil, asgL_cons, asg_fld, asg_ix, endF_nx, endF_rt, iS_cst, iS_var, iS_gc, iS_gf, iS_gk, iS_bin, iS_neg, iS_not, iS_and, iS_or, iS_ite, iS_cmp, iS_cmp2, iS_tup, iS_lst, iS_dct, iS_idx, iS_slc, iS_attr, iS_call, iS_make, iS_blt, iS_isi, iS_meth, iS_lc, cnd_t, cnd_f, envO_z, envO_n, envO_c, ofO_some, idxI_l, idxI_k, idx_ri, idxS_d, idx_rs, idx_ti, fldO_i, fld_r, eq_d, ne_d, lt_d, le_d, gt_d, ge_d, is_d, isnot_d, in_d, notin_d, map_some, eqA_int, eqA_bl, len_tup, lenO_l, lenO_k, lenO_d, len_ref, Ab.int_int, Ab.add_int, Ab.sub_int, max_int, min_int, setI_ri, Bool.not_true, Bool.not_false, W_ok, W_bad, WS_fl, W_bind, WS_st, sq_nx, sq_rt, sq_bk, sq_ct, WS_seq, en_nx, en_rt, W_end, tn_nx, tn_ct, tn_bk, tn_rt, atI0, atI1, atI2, atI3, W_ofO, setO_0, setO_1, setO_2, get_set_s, get_set_n, get_push_lt, lt_push, lt_set, ne_push, push_n', set_n', get_push_self, mulR, Ab.mod_int, Int.reduceLT, Int.reduceNeg, Int.reduceEq, lstA_ok, tupA_ok, lcE_ok, wipeA, List.set_cons_zero, List.set_cons_succ, ev_lc, ev_lc2, ev_dc, dcE_ok, ev_sup, src_e, src_r, src_en, srcV_t, srcV_s, srcV_r, srcO_l, rngV_n, list_r, list_t, tuple_r, tuple_t, seqO_l, seqO_k, listO_s, tupO_s, List.length_cons, List.length_nil, Nat.reduceAdd, Nat.reduceLeDiff, ne_eq, not_false_eq_true, Option.some.injEq, exists_eq_left', g7, lt7, cat_rr, catO_l, get_push_eq, Nat.lt_add_right_iff_pos, Nat.add_lt_add_iff_left, Nat.reduceLT, Nat.add_assoc, Nat.reduceAdd, Nat.add_left_cancel_iff, List.cons_append, List.nil_append, List.length_cons, List.length_nil, Nat.reduceLeDiff, Nat.zero_add, Nat.lt_irrefl, Nat.reduceEqDiff])
  have y12 : Ext S12 ((S12.push (AO.lst [v8, v9, v10, v11, v12])).push (AO.lst [v2, v3, v4, v5, v6, v7, v8, v9, v10, v11, v12])) := (Ab.Fr.push).trans Ab.Fr.push
  have y11 := x12.trans y12
  have y10 := x11.trans y11
  have y9 := x10.trans y10
  have y8 := x9.trans y9
  have y7 := (Ab.Fr.push (M := fun _ => False)).trans (x8.trans y8)
  have y6 := x7.trans y7
  have y5 := x6.trans y6
  have y4 := x5.trans y5
  have y3 := x4.trans y4
  have y2 := x3.trans y3
  have y1 := x2.trans y2
  exact q _ _ _ y1 (get_push_self _) ⟨o2.ext y2, o3.ext y3, o4.ext y4, o5.ext y5, o6.ext y6, o7.ext y7, o8.ext y8, o9.ext y9, o10.ext y10, o11.ext y11, o12.ext y12, trivial⟩
def toldL (w : AV) (xs : List AV) : List (Nat × List (Nat × AV)) := [(13, [(1, .tup xs), (0, w)]), (15, [(1, .tup xs)]), (14, [(1, .tup xs)]), (16, [(2, w)]), (17, [(2, w)]), (18, [(2, w)]), (19, [(2, w)]), (20, [(2, w)]), (21, [(2, w)]), (22, [(3, .tup xs)]), (23, [(3, .tup xs)]), (24, [(3, .tup xs)])]
theorem told_ok {w s : AV} {xs : List AV} (hw : Shw w) (hs : Sqx S s xs) (q : ∀ r S' vs, Ext S S' → S'.get r = some (.lst vs) → Xs S' vs (toldL w xs) → Q (.ref r) S') : W (callN G fbs (d + 2) 6 [w, s] S) Q := by
  refine W_call f6 rfl (by decide) rfl ?_
  unfold b6
  (try simp (config := { maxDischargeDepth := 40 }) only [ok_bind, bad_bind, ok_st, nx_seq, rt_seq, bk_seq, ct_seq, nx_turn, ct_turn, bk_turn, rt_turn, ok_nox, exs_nil, exs_cons, slot_z, slot_s, ev_cst, ev_var, ev_gf, ev_gk, ev_gc, ev_bin, negA_int, ev_neg, tst_bl, ev_not, ev_and, ev_or, ev_ite, ev_cmp, ev_cmp2, rb_some, ch2_t, ch2_f, ev_tup, ev_lst, ev_idx, ev_slc, ev_attr, ev_call, ev_blt, ev_isi, ev_isiE, ev_xmk, ns_xmk, ev_make, ev_meth, evL_nil, evL_cons, evS_nil, evS_star, evS_one, evO_none, evO_some, optA_int, ex_asg, ex_expr, ex_ife, ex_for, ex_whl, ex_ret0, ex_ret, ex_pass, ex_brk, ex_cnt, putS_z, putS_s, asg_nm, asg_tp, asgL_nil, asgL_cons, asg_fld, asg_ix, endF_nx, endF_rt, iS_cst, iS_var, iS_gc, iS_gf, iS_gk, iS_bin, iS_neg, iS_not, iS_and, iS_or, iS_ite, iS_cmp, iS_cmp2, iS_tup, iS_lst, iS_dct, iS_idx, iS_slc, iS_attr, iS_call, iS_make, iS_blt, iS_isi, iS_meth, iS_lc, cnd_t, cnd_f, envO_z, envO_n, envO_c, ofO_some, idxI_l, idxI_k, idx_ri, idxS_d, idx_rs, idx_ti, fldO_i, fld_r, eq_d, ne_d, lt_d, le_d, gt_d, ge_d, is_d, isnot_d, in_d, notin_d, map_some, eqA_int, eqA_bl, len_tup, lenO_l, lenO_k, lenO_d, len_ref, Ab.int_int, Ab.add_int, Ab.sub_int, max_int, min_int, setI_ri, Bool.not_true, Bool.not_false, W_ok, W_bad, WS_fl, W_bind, WS_st, sq_nx, sq_rt, sq_bk, sq_ct, WS_seq, en_nx, en_rt, W_end, tn_nx, tn_ct, tn_bk, tn_rt, atI0, atI1, atI2, atI3, W_ofO, setO_0, setO_1, setO_2, get_set_s, get_set_n, get_push_lt, lt_push, lt_set, ne_push, push_n', set_n', get_push_self, mulR, Ab.mod_int, Int.reduceLT, Int.reduceNeg, Int.reduceEq, lstA_ok, tupA_ok, lcE_ok, wipeA, List.set_cons_zero, List.set_cons_succ, ev_lc, ev_lc2, ev_dc, dcE_ok, ev_sup, src_e, src_r, src_en, srcV_t, srcV_s, srcV_r, srcO_l, rngV_n, list_r, list_t, tuple_r, tuple_t, seqO_l, seqO_k, listO_s, tupO_s, List.length_cons, List.length_nil, Nat.reduceAdd, Nat.reduceLeDiff, ne_eq, not_false_eq_true, Option.some.injEq, exists_eq_left'])
  have hs0 := hs
  have z : Ext S S := Ab.Fr.refl
  refine m13 hw (hs.ext z) fun v13 S13 x13 o13 => ?_
  replace z := z.trans x13
  refine m15 (hs.ext z) fun v15 S15 x15 o15 => ?_
  replace z := z.trans x15
  refine m14 (hs.ext z) fun v14 S14 x14 o14 => ?_
  replace z := z.trans x14
  refine m16 hw fun v16 S16 x16 o16 => ?_
  replace z := z.trans x16
  refine m17 hw fun v17 S17 x17 o17 => ?_
  replace z := z.trans x17
  (try simp (config := { maxDischargeDepth := 40 }) only [ok_bind, bad_bind, ok_st, nx_seq, rt_seq, bk_seq, ct_seq, nx_turn, ct_turn, bk_turn, rt_turn, ok_nox, exs_nil, exs_cons, slot_z, slot_s, ev_cst, ev_var, ev_gf, ev_gk, ev_gc, ev_bin, negA_int, ev_neg, tst_bl, ev_not, ev_and, ev_or, ev_ite, ev_cmp, ev_cmp2, rb_some, ch2_t, ch2_f, ev_tup, ev_lst, ev_idx, ev_slc, ev_attr, ev_call, ev_blt, ev_isi, ev_isiE, ev_xmk, ns_xmk, ev_make, ev_meth, evL_nil, evL_cons, evS_nil, evS_star, evS_one, evO_none, evO_some, optA_int, ex_asg, ex_expr, ex_ife, ex_for, ex_whl, ex_ret0, ex_ret, ex_pass, ex_brk, ex_cnt, putS_z, putS_s, asg_nm, asg_tp, asgL_nil, asgL_cons, asg_fld, asg_ix, endF_nx, endF_rt, iS_cst, iS_var, iS_gc, iS_gf, iS_gk, iS_bin, iS_neg, iS_not, iS_and, iS_or, iS_ite, iS_cmp, iS_cmp2, iS_tup, iS_lst, iS_dct, iS_idx, iS_slc, iS_attr, iS_call, iS_make, iS_blt, iS_isi, iS_meth, iS_lc, cnd_t, cnd_f, envO_z, envO_n, envO_c, ofO_some, idxI_l, idxI_k, idx_ri, idxS_d, idx_rs, idx_ti, fldO_i, fld_r, eq_d, ne_d, lt_d, le_d, gt_d, ge_d, is_d, isnot_d, in_d, notin_d, map_some, eqA_int, eqA_bl, len_tup, lenO_l, lenO_k, lenO_d, len_ref, Ab.int_int, Ab.add_int, Ab.sub_int, max_int, min_int, setI_ri, Bool.not_true, Bool.not_false, W_ok, W_bad, WS_fl, W_bind, WS_st, sq_nx, sq_rt, sq_bk, sq_ct, WS_seq, en_nx, en_rt, W_end, tn_nx, tn_ct, tn_bk, tn_rt, atI0, atI1, atI2, atI3, W_ofO, setO_0, setO_1, setO_2, get_set_s, get_set_n, get_push_lt, lt_push, lt_set, ne_push, push_n', set_n', get_push_self, mulR, Ab.mod_int, Int.reduceLT, Int.reduceNeg, Int.reduceEq, lstA_ok, tupA_ok, lcE_ok, wipeA, List.set_cons_zero, List.set_cons_succ, ev_lc, ev_lc2, ev_dc, dcE_ok, ev_sup, src_e, src_r, src_en, srcV_t, srcV_s, srcV_r, srcO_l, rngV_n, list_r, list_t, tuple_r, tuple_t, seqO_l, seqO_k, listO_s, tupO_s, List.length_cons, List.length_nil, Nat.reduceAdd, Nat.reduceLeDiff, ne_eq, not_false_eq_true, Option.some.injEq, exists_eq_left'])
  replace z := z.trans (Ab.Fr.push (M := fun _ => False) (o := AO.lst [v13, v15, v14, v16, v17]))
  refine m18 hw fun v18 S18 x18 o18 => ?_
  replace z := z.trans x18
  refine m19 hw fun v19 S19 x19 o19 => ?_
  replace z := z.trans x19
  refine m20 hw fun v20 S20 x20 o20 => ?_
  replace z := z.trans x20
  refine m21 hw fun v21 S21 x21 o21 => ?_
  replace z := z.trans x21
  have g17 : S21.get S17.n = some (.lst [v13, v15, v14, v16, v17]) := Ext.at (x18.trans (x19.trans (x20.trans x21))) (get_push_self _)
  have lt17 := Hs.lt_of_get g17
  (try simp (config := { maxDischargeDepth := 40 }) only [ok_bind, bad_bind, ok_st, nx_seq, rt_seq, bk_seq, ct_seq, nx_turn, ct_turn, bk_turn, rt_turn, ok_nox, exs_nil, exs_cons, slot_z, slot_s, ev_cst, ev_var, ev_gf, ev_gk, ev_gc, ev_bin, negA_int, ev_neg, tst_bl, ev_not, ev_and, ev_or, ev_ite, ev_cmp, ev_cmp2, rb_some, ch2_t, ch2_f, ev_tup, ev_lst, ev_idx, ev_slc, ev_attr, ev_call, ev_blt, ev_isi, ev_isiE, ev_xmk, ns_xmk, ev_make, ev_meth, evL_nil, evL_cons, evS_nil, evS_star, evS_one, evO_none, evO_some, optA_int, ex_asg, ex_expr, ex_ife, ex_for, ex_whl, ex_ret0, ex_ret, ex_pass, ex_brk, ex_cnt, putS_z, putS_s, asg_nm, asg_tp, asgL_nil, asgL_cons, asg_fld, asg_ix, endF_nx, endF_rt, iS_cst, iS_var, iS_gc, iS_gf, iS_gk, iS_bin, iS_neg, iS_not, iS_and, iS_or, iS_ite, iS_cmp, iS_cmp2, iS_tup, iS_lst, iS_dct, iS_idx, iS_slc, iS_attr, iS_call, iS_make, iS_blt, iS_isi, iS_meth, iS_lc, cnd_t, cnd_f, envO_z, envO_n, envO_c, ofO_some, idxI_l, idxI_k, idx_ri, idxS_d, idx_rs, idx_ti, fldO_i, fld_r, eq_d, ne_d, lt_d, le_d, gt_d, ge_d, is_d, isnot_d, in_d, notin_d, map_some, eqA_int, eqA_bl, len_tup, lenO_l, lenO_k, lenO_d, len_ref, Ab.int_int, Ab.add_int, Ab.sub_int, max_int, min_int, setI_ri, Bool.not_true, Bool.not_false, W_ok, W_bad, WS_fl, W_bind, WS_st, sq_nx, sq_rt, sq_bk, sq_ct, WS_seq, en_nx, en_rt, W_end, tn_nx, tn_ct, tn_bk, tn_rt, atI0, atI1, atI2, atI3, W_ofO, setO_0, setO_1, setO_2, get_set_s, get_set_n, get_push_lt, lt_push, lt_set, ne_push, push_n', set_n', get_push_self, mulR, Ab.mod_int, Int.reduceLT, Int.reduceNeg, Int.reduceEq, lstA_ok, tupA_ok, lcE_ok, wipeA, List.set_cons_zero, List.set_cons_succ, ev_lc, ev_lc2, ev_dc, dcE_ok, ev_sup, src_e, src_r, src_en, srcV_t, srcV_s, srcV_r, srcO_l, rngV_n, list_r, list_t, tuple_r, tuple_t, seqO_l, seqO_k, listO_s, tupO_s, List.length_cons, List.length_nil, Nat.reduceAdd, Nat.reduceLeDiff, ne_eq, not_false_eq_true, Option.some.injEq, exists_eq_left', g17, lt17, cat_rr, catO_l, get_push_eq, Nat.lt_add_right_iff_pos, Nat.add_lt_add_iff_left, Nat.reduceLT, Nat.add_assoc, Nat.reduceAdd, Nat.add_left_cancel_iff, List.cons_append, List.nil_append, List.length_cons, List.length_nil, Nat.reduceLeDiff, Nat.zero_add, Nat.lt_irrefl, Nat.reduceEqDiff])
  replace z := z.trans ((Ab.Fr.push (M := fun _ => False) (o := AO.lst [v18, v19, v20, v21])).trans (Ab.Fr.push (o := AO.lst [v13, v15, v14, v16, v17, v18, v19, v20, v21])))
  refine m22 (hs.ext z) fun v22 S22 x22 o22 => ?_
  replace z := z.trans x22
  refine m23 (hs.ext z) fun v23 S23 x23 o23 => ?_
  replace z := z.trans x23
  refine m24 (hs.ext z) fun v24 S24 x24 o24 => ?_
  replace z := z.trans x24
  have g21 : S24.get (S21.n + 1) = some (.lst [v13, v15, v14, v16, v17, v18, v19, v20, v21]) := Ext.at (x22.trans (x23.trans x24)) (get_push_eq rfl)
  have lt21 := Hs.lt_of_get g21
  (try simp (config := { maxDischargeDepth := 40 }) only [ok_bind, bad_bind, ok_st, nx_seq, rt_seq, bk_seq, ct_seq, nx_turn, ct_turn, bk_turn, rt_turn, ok_nox, exs_nil, exs_cons, slot_z, slot_s, ev_cst, ev_var, ev_gf, ev_gk, ev_gc, ev_bin, negA_int, ev_neg, tst_bl, ev_not, ev_and, ev_or, ev_ite, ev_cmp, ev_cmp2, rb_some, ch2_t, ch2_f, ev_tup, ev_lst, ev_idx, ev_slc, ev_attr, ev_call, ev_blt, ev_isi, ev_isiE, ev_xmk, ns_xmk, ev_make, ev_meth, evL_nil, evL_cons, evS_nil, evS_star, evS_one, evO_none, evO_some, optA_int, ex_asg, ex_expr, ex_ife, ex_for, ex_whl, ex_ret0, ex_ret, ex_pass, ex_brk, ex_cnt, putS_z, putS_s, asg_nm, asg_tp, asgL_nil, asgL_cons, asg_fld, asg_ix, endF_nx, endF_rt, iS_cst, iS_var, iS_gc, iS_gf, iS_gk, iS_bin, iS_neg, iS_not, iS_and, iS_or, iS_ite, iS_cmp, iS_cmp2, iS_tup, iS_lst, iS_dct, iS_idx, iS_slc, iS_attr, iS_call, iS_make, iS_blt, iS_isi, iS_meth, iS_lc, cnd_t, cnd_f, envO_z, envO_n, envO_c, ofO_some, idxI_l, idxI_k, idx_ri, idxS_d, idx_rs, idx_ti, fldO_i, fld_r, eq_d, ne_d, lt_d, le_d, gt_d, ge_d, is_d, isnot_d, in_d, notin_d, map_some, eqA_int, eqA_bl, len_tup, lenO_l, lenO_k, lenO_d, len_ref, Ab.int_int, Ab.add_int, Ab.sub_int, max_int, min_int, setI_ri, Bool.not_true, Bool.not_false, W_ok, W_bad, WS_fl, W_bind, WS_st, sq_nx, sq_rt, sq_bk, sq_ct, WS_seq, en_nx, en_rt, W_end, tn_nx, tn_ct, tn_bk, tn_rt, atI0, atI1, atI2, atI3, W_ofO, setO_0, setO_1, setO_2, get_set_s, get_set_n, get_push_lt, lt_push, lt_set, ne_push, push_n', set_n', get_push_self, mulR, Ab.mod_int, Int.reduceLT, Int.reduceNeg, Int.reduceEq, lstA_ok, tupA_ok, lcE_ok, wipeA, List.set_cons_zero, List.set_cons_succ, ev_lc, ev_lc2, ev_dc, dcE_ok, ev_sup, src_e, src_r, src_en, srcV_t, srcV_s, srcV_r, srcO_l, rngV_n, list_r, list_t, tuple_r, tuple_t, seqO_l, seqO_k, listO_s, tupO_s, List.length_cons, List.length_nil, Nat.reduceAdd, Nat.reduceLeDiff, ne_eq, not_false_eq_true, Option.some.injEq, exists_eq_left', g21, lt21, cat_rr, catO_l, get_push_eq, Nat.lt_add_right_iff_pos, Nat.add_lt_add_iff_left, Nat.reduceLT, Nat.add_assoc, Nat.reduceAdd, Nat.add_left_cancel_iff, List.cons_append, List.nil_append, List.length_cons, List.length_nil, Nat.reduceLeDiff, Nat.zero_add, Nat.lt_irrefl, Nat.reduceEqDiff])
  have y24 : Ext S24 ((S24.push (AO.lst [v22, v23, v24])).push (AO.lst [v13, v15, v14, v16, v17, v18, v19, v20, v21, v22, v23, v24])) := (Ab.Fr.push).trans Ab.Fr.push
  have y23 := x24.trans y24
  have y22 := x23.trans y23
  have y21 := ((Ab.Fr.push (M := fun _ => False)).trans Ab.Fr.push).trans (x22.trans y22)
  have y20 := x21.trans y21
  have y19 := x20.trans y20
  have y18 := x19.trans y19
  have y17 := (Ab.Fr.push (M := fun _ => False)).trans (x18.trans y18)
  have y16 := x17.trans y17
  have y14 := x16.trans y16
  have y15 := x14.trans y14
  have y13 := x15.trans y15
  exact q _ _ _ (z.trans y24) (get_push_self _) ⟨o13.ext y13, o15.ext y15, o14.ext y14, o16.ext y16, o17.ext y17, o18.ext y18, o19.ext y19, o20.ext y20, o21.ext y21, o22.ext y22, o23.ext y23, o24.ext y24, trivial⟩
end
end La

namespace La
open PySem PySem.Spec PyProof.Rows L2 Ab
section
variable {d k : Nat} {S S' : Hs} {Q : AV → Hs → Prop}
def shB (d : PyData) : Bool := d.showable && !d.hasDict && decide (d.depth ≤ 60) && decide (d.shown.length ≤ sizeLine)
theorem repr_ok {x : AV} {d : PyData} (h : toD 60 S x = some d) (hc : shB d = true) : bltA .repr [x] S = .ok (.str d.shown) S := by
  show (match toD 60 S x with
    | some d => if shB d = true then Rs.ok (AV.str d.shown) S else .bad
    | none => .bad) = _
  rw [h]
  dsimp only
  rw [if_pos hc]
/-- what is known of a word, members, a number -/
structure Kf (w : AV) (xs : List AV) (n : Int) (dw : PyData) (ds : List PyData) : Prop where
  w60 : ∀ S, toD 60 S w = some dw
  w59 : ∀ S, toD 59 S w = some dw
  x59 : ∀ S, toDs (toD 59 S) xs = some ds
  x58 : ∀ S, toDs (toD 58 S) xs = some ds
  b1 : shB (.tuple [dw, .tuple ds]) = true
  b2 : shB (.list [.tuple ds, .tuple ds, .tuple ds]) = true
  b3 : shB dw = true
  b4 : shB (.tuple ds) = true
  b5 : shB (.list [.tuple [.int n, .int 0], .int n, dw, dw, dw, dw]) = true
  sw : Shw w
  sn : Shw (.int n)
  st : Shw (.tup [.int n, .int 0])
theorem tup_r {s : AV} {xs : List AV} (h : Sqx S s xs) {S' : Hs} (x : Ext S S') : bltA .tuple [s] S' = .ok (.tup xs) S' := by
  show (match seqOf S' s with
    | some ys => Rs.ok (AV.tup ys) S'
    | none => .bad) = _
  rw [h S' x]
theorem eqS (a : Str) : eqA S (.str a) (.str a) = some true := by
  show some (a == a) = _
  rw [beq_self_eq_true]
def repO (op : Operator) (o : Option AO) (k : Int) (S : Hs) : Rs AV := match op, o with
  | .Mult, some (.lst xs) => cnd (decide (0 ≤ k) && decide (k ≤ 1000) && decide (xs.length ≤ 1000)) (alloc S (.lst (List.replicate k.toNat xs).flatten)) .bad
  | _, _ => .bad
theorem rep_ri (r : Nat) (k : Int) : binA .Mult (.ref r) (.int k) S = repO .Mult (S.get r) k S := by
  show repA S .Mult (lstOf S (.ref r)) k = _
  have e : lstOf S (.ref r) = (match S.get r with
    | some (.lst xs) => some xs
    | _ => none) := rfl
  rw [e]
  cases S.get r with
  | none => rfl
  | some o => cases o <;> rfl
theorem rep1_3 (x : AV) : repO .Mult (some (.lst [x])) 3 S = .ok (.ref S.n) (S.push (.lst [x, x, x])) := id rfl
theorem rep1_4 (x : AV) : repO .Mult (some (.lst [x])) 4 S = .ok (.ref S.n) (S.push (.lst [x, x, x, x])) := id rfl
theorem toDs_c {f : AV → Option PyData} {x : AV} {xs : List AV} {d : PyData} {ds : List PyData} (h : f x = some d) (t : toDs f xs = some ds) : toDs f (x :: xs) = some (d :: ds) := by
  show (match f x with
    | some d => (match toDs f xs with
      | some ds => some (d :: ds)
      | none => none)
    | none => none) = _
  rw [h, t]
theorem src_r2 (f : E → Hs → Rs AV) (a b : E) : srcA f (.rng (some a) b) S = (f a S).bind fun u S1 => (f b S1).bind fun v S2 => rng2 u v S2 := by
  show ((f a S).bind fun u S1 => (f b S1).bind fun v S2 => (match u, v with
    | .int i, .int j => if (-(2 ^ 62) ≤ i ∧ i < 2 ^ 62) ∧ (-(2 ^ 62) ≤ j ∧ j < 2 ^ 62) then Rs.ok (Itr.rng i (j - i).toNat) S2 else .bad
    | _, _ => .bad)) = _
  congr 1
  funext u S1
  congr 1
  funext v S2
  unfold rng2
  cases u <;> cases v <;> first | rfl | simp only [cnd, decide_eq_true_eq]
theorem rng39 : rng2 (.int 3) (.int 9) S = .ok (.rng 3 6) S := by
  show cnd (decide ((-(2 ^ 62) ≤ (3 : Int) ∧ (3 : Int) < 2 ^ 62) ∧ (-(2 ^ 62) ≤ (9 : Int) ∧ (9 : Int) < 2 ^ 62))) _ _ = _
  rw [decide_eq_true (by omega)]; rfl
theorem rng912 : rng2 (.int 9) (.int 12) S = .ok (.rng 9 3) S := by
  show cnd (decide ((-(2 ^ 62) ≤ (9 : Int) ∧ (9 : Int) < 2 ^ 62) ∧ (-(2 ^ 62) ≤ (12 : Int) ∧ (12 : Int) < 2 ^ 62))) _ _ = _
  rw [decide_eq_true (by omega)]; rfl
theorem kept_ok {w s : AV} {xs : List AV} {n : Int} {dw : PyData} {ds : List PyData} (K : Kf w xs n dw ds) (hs : Sqx S s xs) (q : ∀ S', Ext S S' → Q (.bl true) S') : W (callN G fbs (d + 3) 7 [w, .int n, s] S) Q := by
  refine W_call f7 rfl (by decide) rfl ?_
  unfold b7
  (try simp (config := { maxDischargeDepth := 40 }) only [ok_bind, bad_bind, ok_st, nx_seq, rt_seq, bk_seq, ct_seq, nx_turn, ct_turn, bk_turn, rt_turn, ok_nox, exs_nil, exs_cons, slot_z, slot_s, ev_cst, ev_var, ev_gf, ev_gk, ev_gc, ev_bin, negA_int, ev_neg, tst_bl, ev_not, ev_and, ev_or, ev_ite, ev_cmp, ev_cmp2, rb_some, ch2_t, ch2_f, ev_tup, ev_lst, ev_idx, ev_slc, ev_attr, ev_call, ev_blt, ev_isi, ev_isiE, ev_xmk, ns_xmk, ev_make, ev_meth, evL_nil, evL_cons, evS_nil, evS_star, evS_one, evO_none, evO_some, optA_int, ex_asg, ex_expr, ex_ife, ex_for, ex_whl, ex_ret0, ex_ret, ex_pass, ex_brk, ex_cnt, putS_z, putS_s, asg_nm, asg_tp, asgL_nil, asgL_cons, asg_fld, asg_ix, endF_nx, endF_rt, iS_cst, iS_var, iS_gc, iS_gf, iS_gk, iS_bin, iS_neg, iS_not, iS_and, iS_or, iS_ite, iS_cmp, iS_cmp2, iS_tup, iS_lst, iS_dct, iS_idx, iS_slc, iS_attr, iS_call, iS_make, iS_blt, iS_isi, iS_meth, iS_lc, cnd_t, cnd_f, envO_z, envO_n, envO_c, ofO_some, idxI_l, idxI_k, idx_ri, idxS_d, idx_rs, idx_ti, fldO_i, fld_r, eq_d, ne_d, lt_d, le_d, gt_d, ge_d, is_d, isnot_d, in_d, notin_d, map_some, eqA_int, eqA_bl, len_tup, lenO_l, lenO_k, lenO_d, len_ref, Ab.int_int, Ab.add_int, Ab.sub_int, max_int, min_int, setI_ri, Bool.not_true, Bool.not_false, W_ok, W_bad, WS_fl, W_bind, WS_st, sq_nx, sq_rt, sq_bk, sq_ct, WS_seq, en_nx, en_rt, W_end, tn_nx, tn_ct, tn_bk, tn_rt, atI0, atI1, atI2, atI3, W_ofO, setO_0, setO_1, setO_2, get_set_s, get_set_n, get_push_lt, lt_push, lt_set, ne_push, push_n', set_n', get_push_self, mulR, Ab.mod_int, Int.reduceLT, Int.reduceNeg, Int.reduceEq, lstA_ok, tupA_ok, lcE_ok, wipeA, List.set_cons_zero, List.set_cons_succ, ev_lc, ev_lc2, ev_dc, dcE_ok, ev_sup, src_e, src_r, src_en, srcV_t, srcV_s, srcV_r, srcO_l, rngV_n, list_r, list_t, tuple_r, tuple_t, seqO_l, seqO_k, listO_s, tupO_s, List.length_cons, List.length_nil, Nat.reduceAdd, Nat.reduceLeDiff, ne_eq, not_false_eq_true, Option.some.injEq, exists_eq_left'])
  refine told_ok K.sw hs fun r S1 vs x1 g1 o1 => ?_
  have F : ∀ (i : Nat) (p : Nat × List (Nat × AV)), (toldL w xs)[i]? = some p → ∃ v, vs[i]? = some v ∧ Xo S1 v p.1 p.2 := fun i p h => o1.get h
  obtain ⟨v0, e0, p0⟩ := F 0 _ rfl
  obtain ⟨v1, e1, p1⟩ := F 1 _ rfl
  obtain ⟨v2, e2, p2⟩ := F 2 _ rfl
  have a0 : atI vs 0 = some v0 := atI_nat (j := 0) e0
  have a1 : atI vs 1 = some v1 := atI_nat (j := 1) e1
  have a2 : atI vs 2 = some v2 := atI_nat (j := 2) e2
  have u0 : ∀ S', Ext S1 S' → fldA G S' v0 0 = .ok w S' := fun S' x => (p0.ext x).fld rfl rfl
  have u1 : ∀ S', Ext S1 S' → fldA G S' v0 1 = .ok (.tup xs) S' := fun S' x => (p0.ext x).fld rfl rfl
  have u2 : ∀ S', Ext S1 S' → fldA G S' v1 1 = .ok (.tup xs) S' := fun S' x => (p1.ext x).fld rfl rfl
  have u3 : ∀ S', Ext S1 S' → fldA G S' v2 1 = .ok (.tup xs) S' := fun S' x => (p2.ext x).fld rfl rfl
  have tp : ∀ S', Ext S1 S' → bltA .tuple [s] S' = .ok (.tup xs) S' := fun S' x => tup_r hs (x1.trans x)
  have r1 : ∀ S', bltA .repr [.tup [w, .tup xs]] S' = .ok (.str (PyData.tuple [dw, .tuple ds]).shown) S' := fun S' => repr_ok (by
    rw [toD_tup_eq]
    have e : toDs (toD 59 S') [w, .tup xs] = some [dw, .tuple ds] := by
      show (match toD 59 S' w with
        | some d => (match toDs (toD 59 S') [.tup xs] with
          | some ds => some (d :: ds)
          | none => none)
        | none => none) = _
      rw [K.w59]
      show (match (match toD 59 S' (.tup xs) with
        | some d => some [d]
        | none => none) with
          | some ds => some (dw :: ds)
          | none => none) = _
      rw [toD_tup_eq, K.x58]
    rw [e]) K.b1
  have tds : ∀ S', toD 59 S' (.tup xs) = some (.tuple ds) := fun S' => by rw [toD_tup_eq, K.x58]
  have r2 : ∀ S' r', S'.get r' = some (.lst [.tup xs, .tup xs, .tup xs]) → bltA .repr [.ref r'] S' = .ok (.str (PyData.list [.tuple ds, .tuple ds, .tuple ds]).shown) S' := fun S' r' h => repr_ok (toD_ref h (toDs_c (tds S') (toDs_c (tds S') (toDs_c (tds S') rfl)))) K.b2
  have r3 : ∀ S', bltA .repr [w] S' = .ok (.str dw.shown) S' := fun S' => repr_ok (K.w60 S') K.b3
  have r4 : ∀ S', bltA .repr [.tup xs] S' = .ok (.str (PyData.tuple ds).shown) S' := fun S' => repr_ok (by rw [toD_tup_eq, K.x59]) K.b4
  have r5 : ∀ S' r', S'.get r' = some (.lst [.tup [.int n, .int 0], .int n, w, w, w, w]) → bltA .repr [.ref r'] S' = .ok (.str (PyData.list [.tuple [.int n, .int 0], .int n, dw, dw, dw, dw]).shown) S' := fun S' r' h => repr_ok (toD_ref h (toDs_c rfl (toDs_c rfl (toDs_c (K.w59 S') (toDs_c (K.w59 S') (toDs_c (K.w59 S') (toDs_c (K.w59 S') rfl))))))) K.b5
  have x0 : Ext S1 S1 := Ab.Fr.refl
  (try simp (config := { maxDischargeDepth := 40 }) only [ok_bind, bad_bind, ok_st, nx_seq, rt_seq, bk_seq, ct_seq, nx_turn, ct_turn, bk_turn, rt_turn, ok_nox, exs_nil, exs_cons, slot_z, slot_s, ev_cst, ev_var, ev_gf, ev_gk, ev_gc, ev_bin, negA_int, ev_neg, tst_bl, ev_not, ev_and, ev_or, ev_ite, ev_cmp, ev_cmp2, rb_some, ch2_t, ch2_f, ev_tup, ev_lst, ev_idx, ev_slc, ev_attr, ev_call, ev_blt, ev_isi, ev_isiE, ev_xmk, ns_xmk, ev_make, ev_meth, evL_nil, evL_cons, evS_nil, evS_star, evS_one, evO_none, evO_some, optA_int, ex_asg, ex_expr, ex_ife, ex_for, ex_whl, ex_ret0, ex_ret, ex_pass, ex_brk, ex_cnt, putS_z, putS_s, asg_nm, asg_tp, asgL_nil, asgL_cons, asg_fld, asg_ix, endF_nx, endF_rt, iS_cst, iS_var, iS_gc, iS_gf, iS_gk, iS_bin, iS_neg, iS_not, iS_and, iS_or, iS_ite, iS_cmp, iS_cmp2, iS_tup, iS_lst, iS_dct, iS_idx, iS_slc, iS_attr, iS_call, iS_make, iS_blt, iS_isi, iS_meth, iS_lc, cnd_t, cnd_f, envO_z, envO_n, envO_c, ofO_some, idxI_l, idxI_k, idx_ri, idxS_d, idx_rs, idx_ti, fldO_i, fld_r, eq_d, ne_d, lt_d, le_d, gt_d, ge_d, is_d, isnot_d, in_d, notin_d, map_some, eqA_int, eqA_bl, len_tup, lenO_l, lenO_k, lenO_d, len_ref, Ab.int_int, Ab.add_int, Ab.sub_int, max_int, min_int, setI_ri, Bool.not_true, Bool.not_false, W_ok, W_bad, WS_fl, W_bind, WS_st, sq_nx, sq_rt, sq_bk, sq_ct, WS_seq, en_nx, en_rt, W_end, tn_nx, tn_ct, tn_bk, tn_rt, atI0, atI1, atI2, atI3, W_ofO, setO_0, setO_1, setO_2, get_set_s, get_set_n, get_push_lt, lt_push, lt_set, ne_push, push_n', set_n', get_push_self, mulR, Ab.mod_int, Int.reduceLT, Int.reduceNeg, Int.reduceEq, lstA_ok, tupA_ok, lcE_ok, wipeA, List.set_cons_zero, List.set_cons_succ, ev_lc, ev_lc2, ev_dc, dcE_ok, ev_sup, src_e, src_r, src_en, srcV_t, srcV_s, srcV_r, srcO_l, rngV_n, list_r, list_t, tuple_r, tuple_t, seqO_l, seqO_k, listO_s, tupO_s, List.length_cons, List.length_nil, Nat.reduceAdd, Nat.reduceLeDiff, ne_eq, not_false_eq_true, Option.some.injEq, exists_eq_left', g1, a0, a1, a2, u0, u1, u2, u3, tp, r1, x0, ext_push, eqS])
  refine m26 (hs.ext x1) fun v26 S2 x2 o26 => ?_
  have u4 : fldA G S2 v26 5 = .ok (.tup xs) S2 := o26.fld rfl rfl
  (try simp (config := { maxDischargeDepth := 40 }) only [ok_bind, bad_bind, ok_st, nx_seq, rt_seq, bk_seq, ct_seq, nx_turn, ct_turn, bk_turn, rt_turn, ok_nox, exs_nil, exs_cons, slot_z, slot_s, ev_cst, ev_var, ev_gf, ev_gk, ev_gc, ev_bin, negA_int, ev_neg, tst_bl, ev_not, ev_and, ev_or, ev_ite, ev_cmp, ev_cmp2, rb_some, ch2_t, ch2_f, ev_tup, ev_lst, ev_idx, ev_slc, ev_attr, ev_call, ev_blt, ev_isi, ev_isiE, ev_xmk, ns_xmk, ev_make, ev_meth, evL_nil, evL_cons, evS_nil, evS_star, evS_one, evO_none, evO_some, optA_int, ex_asg, ex_expr, ex_ife, ex_for, ex_whl, ex_ret0, ex_ret, ex_pass, ex_brk, ex_cnt, putS_z, putS_s, asg_nm, asg_tp, asgL_nil, asgL_cons, asg_fld, asg_ix, endF_nx, endF_rt, iS_cst, iS_var, iS_gc, iS_gf, iS_gk, iS_bin, iS_neg, iS_not, iS_and, iS_or, iS_ite, iS_cmp, iS_cmp2, iS_tup, iS_lst, iS_dct, iS_idx, iS_slc, iS_attr, iS_call, iS_make, iS_blt, iS_isi, iS_meth, iS_lc, cnd_t, cnd_f, envO_z, envO_n, envO_c, ofO_some, idxI_l, idxI_k, idx_ri, idxS_d, idx_rs, idx_ti, fldO_i, fld_r, eq_d, ne_d, lt_d, le_d, gt_d, ge_d, is_d, isnot_d, in_d, notin_d, map_some, eqA_int, eqA_bl, len_tup, lenO_l, lenO_k, lenO_d, len_ref, Ab.int_int, Ab.add_int, Ab.sub_int, max_int, min_int, setI_ri, Bool.not_true, Bool.not_false, W_ok, W_bad, WS_fl, W_bind, WS_st, sq_nx, sq_rt, sq_bk, sq_ct, WS_seq, en_nx, en_rt, W_end, tn_nx, tn_ct, tn_bk, tn_rt, atI0, atI1, atI2, atI3, W_ofO, setO_0, setO_1, setO_2, get_set_s, get_set_n, get_push_lt, lt_push, lt_set, ne_push, push_n', set_n', get_push_self, mulR, Ab.mod_int, Int.reduceLT, Int.reduceNeg, Int.reduceEq, lstA_ok, tupA_ok, lcE_ok, wipeA, List.set_cons_zero, List.set_cons_succ, ev_lc, ev_lc2, ev_dc, dcE_ok, ev_sup, src_e, src_r, src_en, srcV_t, srcV_s, srcV_r, srcO_l, rngV_n, list_r, list_t, tuple_r, tuple_t, seqO_l, seqO_k, listO_s, tupO_s, List.length_cons, List.length_nil, Nat.reduceAdd, Nat.reduceLeDiff, ne_eq, not_false_eq_true, Option.some.injEq, exists_eq_left', g1, u4, tp, x2, ext_push, r2, eqS, rep_ri, rep1_3, src_r2, rng39, cat_rr, catO_l, get_push_eq, Nat.lt_add_right_iff_pos, Nat.add_lt_add_iff_left, Nat.reduceLT, Nat.add_assoc, Nat.reduceAdd, Nat.add_left_cancel_iff, List.cons_append, List.nil_append, List.length_cons, List.length_nil, Nat.reduceLeDiff, Nat.zero_add, Nat.lt_irrefl, Nat.reduceEqDiff])
  have z0 : Ext S1 (((S2.push (AO.lst [AV.tup xs, AV.tup xs, AV.tup xs])).push (AO.lst [AV.tup xs])).push (AO.lst [AV.tup xs, AV.tup xs, AV.tup xs])) := ext_push (ext_push (ext_push x2))
  refine wfor (N := 6) (fun i ρ S' => ∃ x, ρ = [some w, some (.int n), some s, some (.ref r), x, none] ∧ Ext S1 S') ⟨none, rfl, z0⟩ (by decide) ?_ (fun ρ S' _ => at_rngE) ?_
  · rintro i ρ S3 hi ⟨x, rfl, z3⟩
    refine ⟨_, at_rng hi, ?_⟩
    have hp : ∃ k, (toldL w xs)[3 + i]? = some (k, [(2, w)]) ∧ isXf G k 2 = true := by
      match i, hi with
      | 0, _ => exact ⟨16, rfl, rfl⟩
      | 1, _ => exact ⟨17, rfl, rfl⟩
      | 2, _ => exact ⟨18, rfl, rfl⟩
      | 3, _ => exact ⟨19, rfl, rfl⟩
      | 4, _ => exact ⟨20, rfl, rfl⟩
      | 5, _ => exact ⟨21, rfl, rfl⟩
    obtain ⟨k, hp1, hp2⟩ := hp
    obtain ⟨v, ev, pv⟩ := F _ _ hp1
    have av : atI vs (3 + (i : Int)) = some v := by
      have := atI_nat (j := 3 + i) ev
      rw [← this]; rfl
    have uv : fldA G S3 v 2 = .ok w S3 := (pv.ext z3).fld (by rw [List.lookup_cons]; rfl) hp2
    have g3 := Ext.at z3 g1
    (try simp (config := { maxDischargeDepth := 40 }) only [ok_bind, bad_bind, ok_st, nx_seq, rt_seq, bk_seq, ct_seq, nx_turn, ct_turn, bk_turn, rt_turn, ok_nox, exs_nil, exs_cons, slot_z, slot_s, ev_cst, ev_var, ev_gf, ev_gk, ev_gc, ev_bin, negA_int, ev_neg, tst_bl, ev_not, ev_and, ev_or, ev_ite, ev_cmp, ev_cmp2, rb_some, ch2_t, ch2_f, ev_tup, ev_lst, ev_idx, ev_slc, ev_attr, ev_call, ev_blt, ev_isi, ev_isiE, ev_xmk, ns_xmk, ev_make, ev_meth, evL_nil, evL_cons, evS_nil, evS_star, evS_one, evO_none, evO_some, optA_int, ex_asg, ex_expr, ex_ife, ex_for, ex_whl, ex_ret0, ex_ret, ex_pass, ex_brk, ex_cnt, putS_z, putS_s, asg_nm, asg_tp, asgL_nil, asgL_cons, asg_fld, asg_ix, endF_nx, endF_rt, iS_cst, iS_var, iS_gc, iS_gf, iS_gk, iS_bin, iS_neg, iS_not, iS_and, iS_or, iS_ite, iS_cmp, iS_cmp2, iS_tup, iS_lst, iS_dct, iS_idx, iS_slc, iS_attr, iS_call, iS_make, iS_blt, iS_isi, iS_meth, iS_lc, cnd_t, cnd_f, envO_z, envO_n, envO_c, ofO_some, idxI_l, idxI_k, idx_ri, idxS_d, idx_rs, idx_ti, fldO_i, fld_r, eq_d, ne_d, lt_d, le_d, gt_d, ge_d, is_d, isnot_d, in_d, notin_d, map_some, eqA_int, eqA_bl, len_tup, lenO_l, lenO_k, lenO_d, len_ref, Ab.int_int, Ab.add_int, Ab.sub_int, max_int, min_int, setI_ri, Bool.not_true, Bool.not_false, W_ok, W_bad, WS_fl, W_bind, WS_st, sq_nx, sq_rt, sq_bk, sq_ct, WS_seq, en_nx, en_rt, W_end, tn_nx, tn_ct, tn_bk, tn_rt, atI0, atI1, atI2, atI3, W_ofO, setO_0, setO_1, setO_2, get_set_s, get_set_n, get_push_lt, lt_push, lt_set, ne_push, push_n', set_n', get_push_self, mulR, Ab.mod_int, Int.reduceLT, Int.reduceNeg, Int.reduceEq, lstA_ok, tupA_ok, lcE_ok, wipeA, List.set_cons_zero, List.set_cons_succ, ev_lc, ev_lc2, ev_dc, dcE_ok, ev_sup, src_e, src_r, src_en, srcV_t, srcV_s, srcV_r, srcO_l, rngV_n, list_r, list_t, tuple_r, tuple_t, seqO_l, seqO_k, listO_s, tupO_s, List.length_cons, List.length_nil, Nat.reduceAdd, Nat.reduceLeDiff, ne_eq, not_false_eq_true, Option.some.injEq, exists_eq_left', g3, av, uv, r3, eqS])
    exact ⟨_, rfl, z3⟩
  · rintro ρ S3 ⟨x, rfl, z3⟩
    (try simp (config := { maxDischargeDepth := 40 }) only [ok_bind, bad_bind, ok_st, nx_seq, rt_seq, bk_seq, ct_seq, nx_turn, ct_turn, bk_turn, rt_turn, ok_nox, exs_nil, exs_cons, slot_z, slot_s, ev_cst, ev_var, ev_gf, ev_gk, ev_gc, ev_bin, negA_int, ev_neg, tst_bl, ev_not, ev_and, ev_or, ev_ite, ev_cmp, ev_cmp2, rb_some, ch2_t, ch2_f, ev_tup, ev_lst, ev_idx, ev_slc, ev_attr, ev_call, ev_blt, ev_isi, ev_isiE, ev_xmk, ns_xmk, ev_make, ev_meth, evL_nil, evL_cons, evS_nil, evS_star, evS_one, evO_none, evO_some, optA_int, ex_asg, ex_expr, ex_ife, ex_for, ex_whl, ex_ret0, ex_ret, ex_pass, ex_brk, ex_cnt, putS_z, putS_s, asg_nm, asg_tp, asgL_nil, asgL_cons, asg_fld, asg_ix, endF_nx, endF_rt, iS_cst, iS_var, iS_gc, iS_gf, iS_gk, iS_bin, iS_neg, iS_not, iS_and, iS_or, iS_ite, iS_cmp, iS_cmp2, iS_tup, iS_lst, iS_dct, iS_idx, iS_slc, iS_attr, iS_call, iS_make, iS_blt, iS_isi, iS_meth, iS_lc, cnd_t, cnd_f, envO_z, envO_n, envO_c, ofO_some, idxI_l, idxI_k, idx_ri, idxS_d, idx_rs, idx_ti, fldO_i, fld_r, eq_d, ne_d, lt_d, le_d, gt_d, ge_d, is_d, isnot_d, in_d, notin_d, map_some, eqA_int, eqA_bl, len_tup, lenO_l, lenO_k, lenO_d, len_ref, Ab.int_int, Ab.add_int, Ab.sub_int, max_int, min_int, setI_ri, Bool.not_true, Bool.not_false, W_ok, W_bad, WS_fl, W_bind, WS_st, sq_nx, sq_rt, sq_bk, sq_ct, WS_seq, en_nx, en_rt, W_end, tn_nx, tn_ct, tn_bk, tn_rt, atI0, atI1, atI2, atI3, W_ofO, setO_0, setO_1, setO_2, get_set_s, get_set_n, get_push_lt, lt_push, lt_set, ne_push, push_n', set_n', get_push_self, mulR, Ab.mod_int, Int.reduceLT, Int.reduceNeg, Int.reduceEq, lstA_ok, tupA_ok, lcE_ok, wipeA, List.set_cons_zero, List.set_cons_succ, ev_lc, ev_lc2, ev_dc, dcE_ok, ev_sup, src_e, src_r, src_en, srcV_t, srcV_s, srcV_r, srcO_l, rngV_n, list_r, list_t, tuple_r, tuple_t, seqO_l, seqO_k, listO_s, tupO_s, List.length_cons, List.length_nil, Nat.reduceAdd, Nat.reduceLeDiff, ne_eq, not_false_eq_true, Option.some.injEq, exists_eq_left', rng912])
    refine wfor (N := 3) (fun i ρ S' => ∃ x, ρ = [some w, some (.int n), some s, some (.ref r), x, none] ∧ Ext S1 S') ⟨_, rfl, z3⟩ (by decide) ?_ (fun ρ S' _ => at_rngE) ?_
    · rintro i ρ S4 hi ⟨x, rfl, z4⟩
      refine ⟨_, at_rng hi, ?_⟩
      have hp : ∃ k, (toldL w xs)[9 + i]? = some (k, [(3, .tup xs)]) ∧ isXf G k 3 = true := by
        match i, hi with
        | 0, _ => exact ⟨22, rfl, rfl⟩
        | 1, _ => exact ⟨23, rfl, rfl⟩
        | 2, _ => exact ⟨24, rfl, rfl⟩
      obtain ⟨k, hp1, hp2⟩ := hp
      obtain ⟨v, ev, pv⟩ := F _ _ hp1
      have av : atI vs (9 + (i : Int)) = some v := by
        have := atI_nat (j := 9 + i) ev
        rw [← this]; rfl
      have uv : fldA G S4 v 3 = .ok (.tup xs) S4 := (pv.ext z4).fld (by rw [List.lookup_cons]; rfl) hp2
      have g4 := Ext.at z4 g1
      have tp4 := tp S4 z4
      (try simp (config := { maxDischargeDepth := 40 }) only [ok_bind, bad_bind, ok_st, nx_seq, rt_seq, bk_seq, ct_seq, nx_turn, ct_turn, bk_turn, rt_turn, ok_nox, exs_nil, exs_cons, slot_z, slot_s, ev_cst, ev_var, ev_gf, ev_gk, ev_gc, ev_bin, negA_int, ev_neg, tst_bl, ev_not, ev_and, ev_or, ev_ite, ev_cmp, ev_cmp2, rb_some, ch2_t, ch2_f, ev_tup, ev_lst, ev_idx, ev_slc, ev_attr, ev_call, ev_blt, ev_isi, ev_isiE, ev_xmk, ns_xmk, ev_make, ev_meth, evL_nil, evL_cons, evS_nil, evS_star, evS_one, evO_none, evO_some, optA_int, ex_asg, ex_expr, ex_ife, ex_for, ex_whl, ex_ret0, ex_ret, ex_pass, ex_brk, ex_cnt, putS_z, putS_s, asg_nm, asg_tp, asgL_nil, asgL_cons, asg_fld, asg_ix, endF_nx, endF_rt, iS_cst, iS_var, iS_gc, iS_gf, iS_gk, iS_bin, iS_neg, iS_not, iS_and, iS_or, iS_ite, iS_cmp, iS_cmp2, iS_tup, iS_lst, iS_dct, iS_idx, iS_slc, iS_attr, iS_call, iS_make, iS_blt, iS_isi, iS_meth, iS_lc, cnd_t, cnd_f, envO_z, envO_n, envO_c, ofO_some, idxI_l, idxI_k, idx_ri, idxS_d, idx_rs, idx_ti, fldO_i, fld_r, eq_d, ne_d, lt_d, le_d, gt_d, ge_d, is_d, isnot_d, in_d, notin_d, map_some, eqA_int, eqA_bl, len_tup, lenO_l, lenO_k, lenO_d, len_ref, Ab.int_int, Ab.add_int, Ab.sub_int, max_int, min_int, setI_ri, Bool.not_true, Bool.not_false, W_ok, W_bad, WS_fl, W_bind, WS_st, sq_nx, sq_rt, sq_bk, sq_ct, WS_seq, en_nx, en_rt, W_end, tn_nx, tn_ct, tn_bk, tn_rt, atI0, atI1, atI2, atI3, W_ofO, setO_0, setO_1, setO_2, get_set_s, get_set_n, get_push_lt, lt_push, lt_set, ne_push, push_n', set_n', get_push_self, mulR, Ab.mod_int, Int.reduceLT, Int.reduceNeg, Int.reduceEq, lstA_ok, tupA_ok, lcE_ok, wipeA, List.set_cons_zero, List.set_cons_succ, ev_lc, ev_lc2, ev_dc, dcE_ok, ev_sup, src_e, src_r, src_en, srcV_t, srcV_s, srcV_r, srcO_l, rngV_n, list_r, list_t, tuple_r, tuple_t, seqO_l, seqO_k, listO_s, tupO_s, List.length_cons, List.length_nil, Nat.reduceAdd, Nat.reduceLeDiff, ne_eq, not_false_eq_true, Option.some.injEq, exists_eq_left', g4, av, uv, r4, tp4, eqS])
      exact ⟨_, rfl, z4⟩
    · rintro ρ S4 ⟨x, rfl, z4⟩
      (try simp (config := { maxDischargeDepth := 40 }) only [ok_bind, bad_bind, ok_st, nx_seq, rt_seq, bk_seq, ct_seq, nx_turn, ct_turn, bk_turn, rt_turn, ok_nox, exs_nil, exs_cons, slot_z, slot_s, ev_cst, ev_var, ev_gf, ev_gk, ev_gc, ev_bin, negA_int, ev_neg, tst_bl, ev_not, ev_and, ev_or, ev_ite, ev_cmp, ev_cmp2, rb_some, ch2_t, ch2_f, ev_tup, ev_lst, ev_idx, ev_slc, ev_attr, ev_call, ev_blt, ev_isi, ev_isiE, ev_xmk, ns_xmk, ev_make, ev_meth, evL_nil, evL_cons, evS_nil, evS_star, evS_one, evO_none, evO_some, optA_int, ex_asg, ex_expr, ex_ife, ex_for, ex_whl, ex_ret0, ex_ret, ex_pass, ex_brk, ex_cnt, putS_z, putS_s, asg_nm, asg_tp, asgL_nil, asgL_cons, asg_fld, asg_ix, endF_nx, endF_rt, iS_cst, iS_var, iS_gc, iS_gf, iS_gk, iS_bin, iS_neg, iS_not, iS_and, iS_or, iS_ite, iS_cmp, iS_cmp2, iS_tup, iS_lst, iS_dct, iS_idx, iS_slc, iS_attr, iS_call, iS_make, iS_blt, iS_isi, iS_meth, iS_lc, cnd_t, cnd_f, envO_z, envO_n, envO_c, ofO_some, idxI_l, idxI_k, idx_ri, idxS_d, idx_rs, idx_ti, fldO_i, fld_r, eq_d, ne_d, lt_d, le_d, gt_d, ge_d, is_d, isnot_d, in_d, notin_d, map_some, eqA_int, eqA_bl, len_tup, lenO_l, lenO_k, lenO_d, len_ref, Ab.int_int, Ab.add_int, Ab.sub_int, max_int, min_int, setI_ri, Bool.not_true, Bool.not_false, W_ok, W_bad, WS_fl, W_bind, WS_st, sq_nx, sq_rt, sq_bk, sq_ct, WS_seq, en_nx, en_rt, W_end, tn_nx, tn_ct, tn_bk, tn_rt, atI0, atI1, atI2, atI3, W_ofO, setO_0, setO_1, setO_2, get_set_s, get_set_n, get_push_lt, lt_push, lt_set, ne_push, push_n', set_n', get_push_self, mulR, Ab.mod_int, Int.reduceLT, Int.reduceNeg, Int.reduceEq, lstA_ok, tupA_ok, lcE_ok, wipeA, List.set_cons_zero, List.set_cons_succ, ev_lc, ev_lc2, ev_dc, dcE_ok, ev_sup, src_e, src_r, src_en, srcV_t, srcV_s, srcV_r, srcO_l, rngV_n, list_r, list_t, tuple_r, tuple_t, seqO_l, seqO_k, listO_s, tupO_s, List.length_cons, List.length_nil, Nat.reduceAdd, Nat.reduceLeDiff, ne_eq, not_false_eq_true, Option.some.injEq, exists_eq_left'])
      refine m27 K.sw fun v27 S27 x27 o27 => ?_
      have f27 : fldA G S27 v27 2 = .ok w S27 := o27.fld rfl rfl
      (try simp (config := { maxDischargeDepth := 40 }) only [ok_bind, bad_bind, ok_st, nx_seq, rt_seq, bk_seq, ct_seq, nx_turn, ct_turn, bk_turn, rt_turn, ok_nox, exs_nil, exs_cons, slot_z, slot_s, ev_cst, ev_var, ev_gf, ev_gk, ev_gc, ev_bin, negA_int, ev_neg, tst_bl, ev_not, ev_and, ev_or, ev_ite, ev_cmp, ev_cmp2, rb_some, ch2_t, ch2_f, ev_tup, ev_lst, ev_idx, ev_slc, ev_attr, ev_call, ev_blt, ev_isi, ev_isiE, ev_xmk, ns_xmk, ev_make, ev_meth, evL_nil, evL_cons, evS_nil, evS_star, evS_one, evO_none, evO_some, optA_int, ex_asg, ex_expr, ex_ife, ex_for, ex_whl, ex_ret0, ex_ret, ex_pass, ex_brk, ex_cnt, putS_z, putS_s, asg_nm, asg_tp, asgL_nil, asgL_cons, asg_fld, asg_ix, endF_nx, endF_rt, iS_cst, iS_var, iS_gc, iS_gf, iS_gk, iS_bin, iS_neg, iS_not, iS_and, iS_or, iS_ite, iS_cmp, iS_cmp2, iS_tup, iS_lst, iS_dct, iS_idx, iS_slc, iS_attr, iS_call, iS_make, iS_blt, iS_isi, iS_meth, iS_lc, cnd_t, cnd_f, envO_z, envO_n, envO_c, ofO_some, idxI_l, idxI_k, idx_ri, idxS_d, idx_rs, idx_ti, fldO_i, fld_r, eq_d, ne_d, lt_d, le_d, gt_d, ge_d, is_d, isnot_d, in_d, notin_d, map_some, eqA_int, eqA_bl, len_tup, lenO_l, lenO_k, lenO_d, len_ref, Ab.int_int, Ab.add_int, Ab.sub_int, max_int, min_int, setI_ri, Bool.not_true, Bool.not_false, W_ok, W_bad, WS_fl, W_bind, WS_st, sq_nx, sq_rt, sq_bk, sq_ct, WS_seq, en_nx, en_rt, W_end, tn_nx, tn_ct, tn_bk, tn_rt, atI0, atI1, atI2, atI3, W_ofO, setO_0, setO_1, setO_2, get_set_s, get_set_n, get_push_lt, lt_push, lt_set, ne_push, push_n', set_n', get_push_self, mulR, Ab.mod_int, Int.reduceLT, Int.reduceNeg, Int.reduceEq, lstA_ok, tupA_ok, lcE_ok, wipeA, List.set_cons_zero, List.set_cons_succ, ev_lc, ev_lc2, ev_dc, dcE_ok, ev_sup, src_e, src_r, src_en, srcV_t, srcV_s, srcV_r, srcO_l, rngV_n, list_r, list_t, tuple_r, tuple_t, seqO_l, seqO_k, listO_s, tupO_s, List.length_cons, List.length_nil, Nat.reduceAdd, Nat.reduceLeDiff, ne_eq, not_false_eq_true, Option.some.injEq, exists_eq_left', f27])
      refine m28 K.sw fun v28 S28 x28 o28 => ?_
      have f28 : fldA G S28 v28 2 = .ok w S28 := o28.fld rfl rfl
      (try simp (config := { maxDischargeDepth := 40 }) only [ok_bind, bad_bind, ok_st, nx_seq, rt_seq, bk_seq, ct_seq, nx_turn, ct_turn, bk_turn, rt_turn, ok_nox, exs_nil, exs_cons, slot_z, slot_s, ev_cst, ev_var, ev_gf, ev_gk, ev_gc, ev_bin, negA_int, ev_neg, tst_bl, ev_not, ev_and, ev_or, ev_ite, ev_cmp, ev_cmp2, rb_some, ch2_t, ch2_f, ev_tup, ev_lst, ev_idx, ev_slc, ev_attr, ev_call, ev_blt, ev_isi, ev_isiE, ev_xmk, ns_xmk, ev_make, ev_meth, evL_nil, evL_cons, evS_nil, evS_star, evS_one, evO_none, evO_some, optA_int, ex_asg, ex_expr, ex_ife, ex_for, ex_whl, ex_ret0, ex_ret, ex_pass, ex_brk, ex_cnt, putS_z, putS_s, asg_nm, asg_tp, asgL_nil, asgL_cons, asg_fld, asg_ix, endF_nx, endF_rt, iS_cst, iS_var, iS_gc, iS_gf, iS_gk, iS_bin, iS_neg, iS_not, iS_and, iS_or, iS_ite, iS_cmp, iS_cmp2, iS_tup, iS_lst, iS_dct, iS_idx, iS_slc, iS_attr, iS_call, iS_make, iS_blt, iS_isi, iS_meth, iS_lc, cnd_t, cnd_f, envO_z, envO_n, envO_c, ofO_some, idxI_l, idxI_k, idx_ri, idxS_d, idx_rs, idx_ti, fldO_i, fld_r, eq_d, ne_d, lt_d, le_d, gt_d, ge_d, is_d, isnot_d, in_d, notin_d, map_some, eqA_int, eqA_bl, len_tup, lenO_l, lenO_k, lenO_d, len_ref, Ab.int_int, Ab.add_int, Ab.sub_int, max_int, min_int, setI_ri, Bool.not_true, Bool.not_false, W_ok, W_bad, WS_fl, W_bind, WS_st, sq_nx, sq_rt, sq_bk, sq_ct, WS_seq, en_nx, en_rt, W_end, tn_nx, tn_ct, tn_bk, tn_rt, atI0, atI1, atI2, atI3, W_ofO, setO_0, setO_1, setO_2, get_set_s, get_set_n, get_push_lt, lt_push, lt_set, ne_push, push_n', set_n', get_push_self, mulR, Ab.mod_int, Int.reduceLT, Int.reduceNeg, Int.reduceEq, lstA_ok, tupA_ok, lcE_ok, wipeA, List.set_cons_zero, List.set_cons_succ, ev_lc, ev_lc2, ev_dc, dcE_ok, ev_sup, src_e, src_r, src_en, srcV_t, srcV_s, srcV_r, srcO_l, rngV_n, list_r, list_t, tuple_r, tuple_t, seqO_l, seqO_k, listO_s, tupO_s, List.length_cons, List.length_nil, Nat.reduceAdd, Nat.reduceLeDiff, ne_eq, not_false_eq_true, Option.some.injEq, exists_eq_left', f28])
      refine m29 K.sw fun v29 S29 x29 o29 => ?_
      have f29 : fldA G S29 v29 2 = .ok w S29 := o29.fld rfl rfl
      (try simp (config := { maxDischargeDepth := 40 }) only [ok_bind, bad_bind, ok_st, nx_seq, rt_seq, bk_seq, ct_seq, nx_turn, ct_turn, bk_turn, rt_turn, ok_nox, exs_nil, exs_cons, slot_z, slot_s, ev_cst, ev_var, ev_gf, ev_gk, ev_gc, ev_bin, negA_int, ev_neg, tst_bl, ev_not, ev_and, ev_or, ev_ite, ev_cmp, ev_cmp2, rb_some, ch2_t, ch2_f, ev_tup, ev_lst, ev_idx, ev_slc, ev_attr, ev_call, ev_blt, ev_isi, ev_isiE, ev_xmk, ns_xmk, ev_make, ev_meth, evL_nil, evL_cons, evS_nil, evS_star, evS_one, evO_none, evO_some, optA_int, ex_asg, ex_expr, ex_ife, ex_for, ex_whl, ex_ret0, ex_ret, ex_pass, ex_brk, ex_cnt, putS_z, putS_s, asg_nm, asg_tp, asgL_nil, asgL_cons, asg_fld, asg_ix, endF_nx, endF_rt, iS_cst, iS_var, iS_gc, iS_gf, iS_gk, iS_bin, iS_neg, iS_not, iS_and, iS_or, iS_ite, iS_cmp, iS_cmp2, iS_tup, iS_lst, iS_dct, iS_idx, iS_slc, iS_attr, iS_call, iS_make, iS_blt, iS_isi, iS_meth, iS_lc, cnd_t, cnd_f, envO_z, envO_n, envO_c, ofO_some, idxI_l, idxI_k, idx_ri, idxS_d, idx_rs, idx_ti, fldO_i, fld_r, eq_d, ne_d, lt_d, le_d, gt_d, ge_d, is_d, isnot_d, in_d, notin_d, map_some, eqA_int, eqA_bl, len_tup, lenO_l, lenO_k, lenO_d, len_ref, Ab.int_int, Ab.add_int, Ab.sub_int, max_int, min_int, setI_ri, Bool.not_true, Bool.not_false, W_ok, W_bad, WS_fl, W_bind, WS_st, sq_nx, sq_rt, sq_bk, sq_ct, WS_seq, en_nx, en_rt, W_end, tn_nx, tn_ct, tn_bk, tn_rt, atI0, atI1, atI2, atI3, W_ofO, setO_0, setO_1, setO_2, get_set_s, get_set_n, get_push_lt, lt_push, lt_set, ne_push, push_n', set_n', get_push_self, mulR, Ab.mod_int, Int.reduceLT, Int.reduceNeg, Int.reduceEq, lstA_ok, tupA_ok, lcE_ok, wipeA, List.set_cons_zero, List.set_cons_succ, ev_lc, ev_lc2, ev_dc, dcE_ok, ev_sup, src_e, src_r, src_en, srcV_t, srcV_s, srcV_r, srcO_l, rngV_n, list_r, list_t, tuple_r, tuple_t, seqO_l, seqO_k, listO_s, tupO_s, List.length_cons, List.length_nil, Nat.reduceAdd, Nat.reduceLeDiff, ne_eq, not_false_eq_true, Option.some.injEq, exists_eq_left', f29])
      refine m30 K.sw fun v30 S30 x30 o30 => ?_
      have f30 : fldA G S30 v30 2 = .ok w S30 := o30.fld rfl rfl
      (try simp (config := { maxDischargeDepth := 40 }) only [ok_bind, bad_bind, ok_st, nx_seq, rt_seq, bk_seq, ct_seq, nx_turn, ct_turn, bk_turn, rt_turn, ok_nox, exs_nil, exs_cons, slot_z, slot_s, ev_cst, ev_var, ev_gf, ev_gk, ev_gc, ev_bin, negA_int, ev_neg, tst_bl, ev_not, ev_and, ev_or, ev_ite, ev_cmp, ev_cmp2, rb_some, ch2_t, ch2_f, ev_tup, ev_lst, ev_idx, ev_slc, ev_attr, ev_call, ev_blt, ev_isi, ev_isiE, ev_xmk, ns_xmk, ev_make, ev_meth, evL_nil, evL_cons, evS_nil, evS_star, evS_one, evO_none, evO_some, optA_int, ex_asg, ex_expr, ex_ife, ex_for, ex_whl, ex_ret0, ex_ret, ex_pass, ex_brk, ex_cnt, putS_z, putS_s, asg_nm, asg_tp, asgL_nil, asgL_cons, asg_fld, asg_ix, endF_nx, endF_rt, iS_cst, iS_var, iS_gc, iS_gf, iS_gk, iS_bin, iS_neg, iS_not, iS_and, iS_or, iS_ite, iS_cmp, iS_cmp2, iS_tup, iS_lst, iS_dct, iS_idx, iS_slc, iS_attr, iS_call, iS_make, iS_blt, iS_isi, iS_meth, iS_lc, cnd_t, cnd_f, envO_z, envO_n, envO_c, ofO_some, idxI_l, idxI_k, idx_ri, idxS_d, idx_rs, idx_ti, fldO_i, fld_r, eq_d, ne_d, lt_d, le_d, gt_d, ge_d, is_d, isnot_d, in_d, notin_d, map_some, eqA_int, eqA_bl, len_tup, lenO_l, lenO_k, lenO_d, len_ref, Ab.int_int, Ab.add_int, Ab.sub_int, max_int, min_int, setI_ri, Bool.not_true, Bool.not_false, W_ok, W_bad, WS_fl, W_bind, WS_st, sq_nx, sq_rt, sq_bk, sq_ct, WS_seq, en_nx, en_rt, W_end, tn_nx, tn_ct, tn_bk, tn_rt, atI0, atI1, atI2, atI3, W_ofO, setO_0, setO_1, setO_2, get_set_s, get_set_n, get_push_lt, lt_push, lt_set, ne_push, push_n', set_n', get_push_self, mulR, Ab.mod_int, Int.reduceLT, Int.reduceNeg, Int.reduceEq, lstA_ok, tupA_ok, lcE_ok, wipeA, List.set_cons_zero, List.set_cons_succ, ev_lc, ev_lc2, ev_dc, dcE_ok, ev_sup, src_e, src_r, src_en, srcV_t, srcV_s, srcV_r, srcO_l, rngV_n, list_r, list_t, tuple_r, tuple_t, seqO_l, seqO_k, listO_s, tupO_s, List.length_cons, List.length_nil, Nat.reduceAdd, Nat.reduceLeDiff, ne_eq, not_false_eq_true, Option.some.injEq, exists_eq_left', f30])
      refine m25 K.st fun v25 S25 x25 o25 => ?_
      have f25 : fldA G S25 v25 4 = .ok (.tup [.int n, .int 0]) S25 := o25.fld rfl rfl
      (try simp (config := { maxDischargeDepth := 40 }) only [ok_bind, bad_bind, ok_st, nx_seq, rt_seq, bk_seq, ct_seq, nx_turn, ct_turn, bk_turn, rt_turn, ok_nox, exs_nil, exs_cons, slot_z, slot_s, ev_cst, ev_var, ev_gf, ev_gk, ev_gc, ev_bin, negA_int, ev_neg, tst_bl, ev_not, ev_and, ev_or, ev_ite, ev_cmp, ev_cmp2, rb_some, ch2_t, ch2_f, ev_tup, ev_lst, ev_idx, ev_slc, ev_attr, ev_call, ev_blt, ev_isi, ev_isiE, ev_xmk, ns_xmk, ev_make, ev_meth, evL_nil, evL_cons, evS_nil, evS_star, evS_one, evO_none, evO_some, optA_int, ex_asg, ex_expr, ex_ife, ex_for, ex_whl, ex_ret0, ex_ret, ex_pass, ex_brk, ex_cnt, putS_z, putS_s, asg_nm, asg_tp, asgL_nil, asgL_cons, asg_fld, asg_ix, endF_nx, endF_rt, iS_cst, iS_var, iS_gc, iS_gf, iS_gk, iS_bin, iS_neg, iS_not, iS_and, iS_or, iS_ite, iS_cmp, iS_cmp2, iS_tup, iS_lst, iS_dct, iS_idx, iS_slc, iS_attr, iS_call, iS_make, iS_blt, iS_isi, iS_meth, iS_lc, cnd_t, cnd_f, envO_z, envO_n, envO_c, ofO_some, idxI_l, idxI_k, idx_ri, idxS_d, idx_rs, idx_ti, fldO_i, fld_r, eq_d, ne_d, lt_d, le_d, gt_d, ge_d, is_d, isnot_d, in_d, notin_d, map_some, eqA_int, eqA_bl, len_tup, lenO_l, lenO_k, lenO_d, len_ref, Ab.int_int, Ab.add_int, Ab.sub_int, max_int, min_int, setI_ri, Bool.not_true, Bool.not_false, W_ok, W_bad, WS_fl, W_bind, WS_st, sq_nx, sq_rt, sq_bk, sq_ct, WS_seq, en_nx, en_rt, W_end, tn_nx, tn_ct, tn_bk, tn_rt, atI0, atI1, atI2, atI3, W_ofO, setO_0, setO_1, setO_2, get_set_s, get_set_n, get_push_lt, lt_push, lt_set, ne_push, push_n', set_n', get_push_self, mulR, Ab.mod_int, Int.reduceLT, Int.reduceNeg, Int.reduceEq, lstA_ok, tupA_ok, lcE_ok, wipeA, List.set_cons_zero, List.set_cons_succ, ev_lc, ev_lc2, ev_dc, dcE_ok, ev_sup, src_e, src_r, src_en, srcV_t, srcV_s, srcV_r, srcO_l, rngV_n, list_r, list_t, tuple_r, tuple_t, seqO_l, seqO_k, listO_s, tupO_s, List.length_cons, List.length_nil, Nat.reduceAdd, Nat.reduceLeDiff, ne_eq, not_false_eq_true, Option.some.injEq, exists_eq_left', f25])
      refine m31 K.sn fun v31 S31 x31 o31 => ?_
      have f31 : fldA G S31 v31 6 = .ok (.int n) S31 := o31.fld rfl rfl
      have y30 : Ext S30 S31 := (Ab.Fr.push (M := fun _ => False)).trans (x25.trans x31)
      have g30 : S31.get S30.n = some (.lst [w, w, w, w]) := Ext.at (x25.trans x31) (get_push_self _)
      have lt30 := Hs.lt_of_get g30
      (try simp (config := { maxDischargeDepth := 40 }) only [ok_bind, bad_bind, ok_st, nx_seq, rt_seq, bk_seq, ct_seq, nx_turn, ct_turn, bk_turn, rt_turn, ok_nox, exs_nil, exs_cons, slot_z, slot_s, ev_cst, ev_var, ev_gf, ev_gk, ev_gc, ev_bin, negA_int, ev_neg, tst_bl, ev_not, ev_and, ev_or, ev_ite, ev_cmp, ev_cmp2, rb_some, ch2_t, ch2_f, ev_tup, ev_lst, ev_idx, ev_slc, ev_attr, ev_call, ev_blt, ev_isi, ev_isiE, ev_xmk, ns_xmk, ev_make, ev_meth, evL_nil, evL_cons, evS_nil, evS_star, evS_one, evO_none, evO_some, optA_int, ex_asg, ex_expr, ex_ife, ex_for, ex_whl, ex_ret0, ex_ret, ex_pass, ex_brk, ex_cnt, putS_z, putS_s, asg_nm, asg_tp, asgL_nil, asgL_cons, asg_fld, asg_ix, endF_nx, endF_rt, iS_cst, iS_var, iS_gc, iS_gf, iS_gk, iS_bin, iS_neg, iS_not, iS_and, iS_or, iS_ite, iS_cmp, iS_cmp2, iS_tup, iS_lst, iS_dct, iS_idx, iS_slc, iS_attr, iS_call, iS_make, iS_blt, iS_isi, iS_meth, iS_lc, cnd_t, cnd_f, envO_z, envO_n, envO_c, ofO_some, idxI_l, idxI_k, idx_ri, idxS_d, idx_rs, idx_ti, fldO_i, fld_r, eq_d, ne_d, lt_d, le_d, gt_d, ge_d, is_d, isnot_d, in_d, notin_d, map_some, eqA_int, eqA_bl, len_tup, lenO_l, lenO_k, lenO_d, len_ref, Ab.int_int, Ab.add_int, Ab.sub_int, max_int, min_int, setI_ri, Bool.not_true, Bool.not_false, W_ok, W_bad, WS_fl, W_bind, WS_st, sq_nx, sq_rt, sq_bk, sq_ct, WS_seq, en_nx, en_rt, W_end, tn_nx, tn_ct, tn_bk, tn_rt, atI0, atI1, atI2, atI3, W_ofO, setO_0, setO_1, setO_2, get_set_s, get_set_n, get_push_lt, lt_push, lt_set, ne_push, push_n', set_n', get_push_self, mulR, Ab.mod_int, Int.reduceLT, Int.reduceNeg, Int.reduceEq, lstA_ok, tupA_ok, lcE_ok, wipeA, List.set_cons_zero, List.set_cons_succ, ev_lc, ev_lc2, ev_dc, dcE_ok, ev_sup, src_e, src_r, src_en, srcV_t, srcV_s, srcV_r, srcO_l, rngV_n, list_r, list_t, tuple_r, tuple_t, seqO_l, seqO_k, listO_s, tupO_s, List.length_cons, List.length_nil, Nat.reduceAdd, Nat.reduceLeDiff, ne_eq, not_false_eq_true, Option.some.injEq, exists_eq_left', f31, g30, lt30, r5, eqS, rep_ri, rep1_4, cat_rr, catO_l, get_push_eq, Nat.lt_add_right_iff_pos, Nat.add_lt_add_iff_left, Nat.reduceLT, Nat.add_assoc, Nat.reduceAdd, Nat.add_left_cancel_iff, List.cons_append, List.nil_append, List.length_cons, List.length_nil, Nat.reduceLeDiff, Nat.zero_add, Nat.lt_irrefl, Nat.reduceEqDiff])
      refine q _ ?_
      have z5 : Ext S S31 := x1.trans (z4.trans (x27.trans (x28.trans (x29.trans (x30.trans y30)))))
      repeat' first | exact z5 | refine ext_push ?_
end
end La

namespace La
open PySem PySem.Spec PyProof.Rows L2 Ab
section
variable {d k : Nat} {S S' : Hs} {Q : AV → Hs → Prop}
def words : List AV := [.str s_E, .str s_x, .str s_no_such_grade, .non, .str (repS s_x 100), .tup [.str s_a], .int 0]
def dws : List PyData := [.str s_E, .str s_x, .str s_no_such_grade, .none, .str (repS s_x 100), .tuple [.str s_a], .int 0]
def mems : List (List AV) := [[.str s_a, .str s_b], [], [.str s_a], [.int 0, .int 1, .int 0], [.tup [.str s_x, .str s_y]]]
def dms : List (List PyData) := [[.str s_a, .str s_b], [], [.str s_a], [.int 0, .int 1, .int 0], [.tuple [.str s_x, .str s_y]]]
def nums : List Int := [0, 1, 7, 200, 10 ^ 30]
def okW (d : PyData) : Bool := shB d && decide (d.shown.length ≤ 1000)
theorem b_all : ∀ dw ∈ dws, ∀ ds ∈ dms, ∀ n ∈ nums, (okW dw && (shB (.tuple [dw, .tuple ds]) && (shB (.list [.tuple ds, .tuple ds, .tuple ds]) && (shB (.tuple ds) && (shB (.list [.tuple [.int n, .int 0], .int n, dw, dw, dw, dw]) && (okW (.int n) && okW (.tuple [.int n, .int 0]))))))) = true := by decide +kernel
theorem shA_ok {w : AV} {d : PyData} (h : toD 60 S w = some d) (hb : shB d = true) : shA S w = some d.shown := by
  show (match toD 60 S w with
    | some d => if shB d = true then some d.shown else none
    | none => none) = _
  rw [h]
  dsimp only
  rw [if_pos hb]
theorem shw_of {w : AV} {d : PyData} (h : ∀ S, toD 60 S w = some d) (hb : okW d = true) (hf : ∀ S r, fmtA r w S = shA S w) : Shw w := by
  obtain ⟨h1, h2⟩ := Bool.and_eq_true_iff.mp hb
  exact ⟨d.shown, d.shown, fun S => (hf S false).trans (shA_ok (h S) h1), fun S => (hf S true).trans (shA_ok (h S) h1), of_decide_eq_true h2, of_decide_eq_true h2⟩
theorem shw_str {x : Str} (hl : x.length ≤ 1000) (hb : okW (.str x) = true) : Shw (.str x) := by
  obtain ⟨h1, h2⟩ := Bool.and_eq_true_iff.mp hb
  refine ⟨x, (PyData.str x).shown, fun S => ?_, fun S => shA_ok (S := S) (w := .str x) rfl h1, hl, of_decide_eq_true h2⟩
  show (if okLen x.length then some x else none) = _
  rw [okLen_s (by omega)]; rfl
theorem shw_w : ∀ (i : Nat) (w : AV) (dw : PyData), words[i]? = some w → dws[i]? = some dw → okW dw = true → Shw w ∧ (∀ S, toD 60 S w = some dw) ∧ ∀ S, toD 59 S w = some dw := fun i w dw h1 h2 hb => by
  match i, h1, h2 with
  | 0, h1, h2 => cases h1; cases h2; exact ⟨shw_str (by decide +kernel) hb, fun _ => rfl, fun _ => rfl⟩
  | 1, h1, h2 => cases h1; cases h2; exact ⟨shw_str (by decide +kernel) hb, fun _ => rfl, fun _ => rfl⟩
  | 2, h1, h2 => cases h1; cases h2; exact ⟨shw_str (by decide +kernel) hb, fun _ => rfl, fun _ => rfl⟩
  | 3, h1, h2 => cases h1; cases h2; exact ⟨shw_of (fun _ => rfl) hb (fun S r => by cases r <;> rfl), fun _ => rfl, fun _ => rfl⟩
  | 4, h1, h2 => cases h1; cases h2; exact ⟨shw_str (by decide +kernel) hb, fun _ => rfl, fun _ => rfl⟩
  | 5, h1, h2 => cases h1; cases h2; exact ⟨shw_of (fun _ => rfl) hb (fun S r => by cases r <;> rfl), fun _ => rfl, fun _ => rfl⟩
  | 6, h1, h2 => cases h1; cases h2; exact ⟨shw_of (fun _ => rfl) hb (fun S r => by cases r <;> rfl), fun _ => rfl, fun _ => rfl⟩
  | n + 7, h1, h2 => cases h1
theorem mem_d : ∀ (j : Nat) (xs : List AV) (ds : List PyData), mems[j]? = some xs → dms[j]? = some ds → (∀ S, toDs (toD 59 S) xs = some ds) ∧ ∀ S, toDs (toD 58 S) xs = some ds := fun j xs ds h1 h2 => by
  match j, h1, h2 with
  | 0, h1, h2 => cases h1; cases h2; exact ⟨fun _ => rfl, fun _ => rfl⟩
  | 1, h1, h2 => cases h1; cases h2; exact ⟨fun _ => rfl, fun _ => rfl⟩
  | 2, h1, h2 => cases h1; cases h2; exact ⟨fun _ => rfl, fun _ => rfl⟩
  | 3, h1, h2 => cases h1; cases h2; exact ⟨fun _ => rfl, fun _ => rfl⟩
  | 4, h1, h2 => cases h1; cases h2; exact ⟨fun _ => rfl, fun _ => rfl⟩
  | n + 5, h1, h2 => cases h1
theorem kf {i j : Nat} {w : AV} {dw : PyData} {xs : List AV} {ds : List PyData} {n : Int} (h1 : words[i]? = some w) (h2 : dws[i]? = some dw) (h3 : mems[j]? = some xs) (h4 : dms[j]? = some ds) (hn : n ∈ nums) : Kf w xs n dw ds := by
  have b := b_all dw (List.mem_of_getElem? h2) ds (List.mem_of_getElem? h4) n hn
  simp only [Bool.and_eq_true] at b
  obtain ⟨c1, c2, c3, c4, c5, c6, c7⟩ := b
  obtain ⟨s1, s2, s3⟩ := shw_w i w dw h1 h2 c1
  obtain ⟨m1, m2⟩ := mem_d j xs ds h3 h4
  exact ⟨s2, s3, m1, m2, c2, c3, (Bool.and_eq_true_iff.mp c1).1, c4, c5, s1, shw_of (fun _ => rfl) c6 (fun S r => by cases r <;> rfl), shw_of (fun _ => rfl) c7 (fun S r => by cases r <;> rfl)⟩
end
end La

namespace La
open PySem PySem.Spec PyProof.Rows L2 Ab
section
variable {d k : Nat} {S S' : Hs} {Q : AV → Hs → Prop}
theorem cut_take {xs : List AV} {n : Nat} : cutA xs none (some (n : Int)) = xs.take n := by
  unfold cutA
  have e1 : HT.sIx xs.length 0 none = 0 := rfl
  have e2 : HT.sIx xs.length xs.length (some (n : Int)) = min n xs.length := HT.sIx_nat _ _ _
  rw [e1, e2, List.drop_zero, Nat.sub_zero, ← List.take_take, List.take_length]
def dctA (ps : List (AV × AV)) (S : Hs) : Rs AV := match keysA ps with
  | some kvs => if kvs.length ≤ 15 then alloc S (.dct (mergeA [] kvs)) else .bad
  | none => .bad
theorem pen_ok {ns : List Int} (k : ∀ S' r c, Pen S' r c 0 → Q (.ref r) S') : W (callN G fbs (d + 1) 0 [.ref 0] (S0 ns)) Q := by
  refine W_call f0 rfl (by decide) rfl ?_
  unfold b0
  have e0 : slcA (S0 ns) (.ref 0) none (some 60) = .ok (.ref 1) ((S0 ns).push (.lst ((ns.take 60).map .int))) := by
    have e : seqAt (S0 ns) 0 = some (ns.map .int) := by
      show (match (S0 ns).get 0 with | some o => o.seq | none => none) = _
      rw [show (S0 ns).get 0 = some (.lck (.lst (ns.map .int))) from Hs.get_push_self _ _]; rfl
    show (match seqAt (S0 ns) 0 with
      | some xs => alloc (S0 ns) (.lst (cutA xs none (some 60)))
      | none => .bad) = _
    rw [e]
    have e2 : cutA (ns.map AV.int) none (some 60) = (ns.take 60).map .int := by
      rw [List.map_take]; exact cut_take (n := 60)
    show alloc (S0 ns) (.lst (cutA (ns.map AV.int) none (some 60))) = _
    rw [e2]; rfl
  (try simp only [ok_bind, bad_bind, ok_st, nx_seq, rt_seq, bk_seq, ct_seq, nx_turn, ct_turn, bk_turn, rt_turn, ok_nox, exs_nil, exs_cons, slot_z, slot_s, ev_cst, ev_var, ev_gf, ev_gk, ev_gc, ev_bin, negA_int, ev_neg, tst_bl, ev_not, ev_and, ev_or, ev_ite, ev_cmp, ev_cmp2, rb_some, ch2_t, ch2_f, ev_tup, ev_lst, ev_idx, ev_slc, ev_attr, ev_call, ev_blt, ev_isi, ev_isiE, ev_xmk, ns_xmk, ev_make, ev_meth, evL_nil, evL_cons, evS_nil, evS_star, evS_one, evO_none, evO_some, optA_int, ex_asg, ex_expr, ex_ife, ex_for, ex_whl, ex_ret0, ex_ret, ex_pass, ex_brk, ex_cnt, putS_z, putS_s, asg_nm, asg_tp, asgL_nil, asgL_cons, asg_fld, asg_ix, endF_nx, endF_rt, iS_cst, iS_var, iS_gc, iS_gf, iS_gk, iS_bin, iS_neg, iS_not, iS_and, iS_or, iS_ite, iS_cmp, iS_cmp2, iS_tup, iS_lst, iS_dct, iS_idx, iS_slc, iS_attr, iS_call, iS_make, iS_blt, iS_isi, iS_meth, iS_lc, cnd_t, cnd_f, envO_z, envO_n, envO_c, ofO_some, idxI_l, idxI_k, idx_ri, idxS_d, idx_rs, idx_ti, fldO_i, fld_r, eq_d, ne_d, lt_d, le_d, gt_d, ge_d, is_d, isnot_d, in_d, notin_d, map_some, eqA_int, eqA_bl, len_tup, lenO_l, lenO_k, lenO_d, len_ref, Ab.int_int, Ab.add_int, Ab.sub_int, max_int, min_int, setI_ri, Bool.not_true, Bool.not_false, W_ok, W_bad, WS_fl, W_bind, WS_st, sq_nx, sq_rt, sq_bk, sq_ct, WS_seq, en_nx, en_rt, W_end, tn_nx, tn_ct, tn_bk, tn_rt, atI0, atI1, atI2, atI3, W_ofO, setO_0, setO_1, setO_2, get_set_s, get_set_n, get_push_lt, lt_push, lt_set, ne_push, push_n', set_n', get_push_self, mulR, Ab.mod_int, Int.reduceLT, Int.reduceNeg, Int.reduceEq, lstA_ok, tupA_ok, lcE_ok, wipeA, List.set_cons_zero, List.set_cons_succ, ev_lc, ev_lc2, ev_dc, dcE_ok, ev_sup, src_e, src_r, src_en, srcV_t, srcV_s, srcV_r, srcO_l, rngV_n, list_r, list_t, tuple_r, tuple_t, seqO_l, seqO_k, listO_s, tupO_s, List.length_cons, List.length_nil, Nat.reduceAdd, Nat.reduceLeDiff, ne_eq, not_false_eq_true, Option.some.injEq, exists_eq_left', e0])
  have g1 : ((S0 ns).push (.lst ((ns.take 60).map .int))).get 1 = some (.lst ((ns.take 60).map .int)) := get_push_self (S := S0 ns) _
  (try simp only [ok_bind, bad_bind, ok_st, nx_seq, rt_seq, bk_seq, ct_seq, nx_turn, ct_turn, bk_turn, rt_turn, ok_nox, exs_nil, exs_cons, slot_z, slot_s, ev_cst, ev_var, ev_gf, ev_gk, ev_gc, ev_bin, negA_int, ev_neg, tst_bl, ev_not, ev_and, ev_or, ev_ite, ev_cmp, ev_cmp2, rb_some, ch2_t, ch2_f, ev_tup, ev_lst, ev_idx, ev_slc, ev_attr, ev_call, ev_blt, ev_isi, ev_isiE, ev_xmk, ns_xmk, ev_make, ev_meth, evL_nil, evL_cons, evS_nil, evS_star, evS_one, evO_none, evO_some, optA_int, ex_asg, ex_expr, ex_ife, ex_for, ex_whl, ex_ret0, ex_ret, ex_pass, ex_brk, ex_cnt, putS_z, putS_s, asg_nm, asg_tp, asgL_nil, asgL_cons, asg_fld, asg_ix, endF_nx, endF_rt, iS_cst, iS_var, iS_gc, iS_gf, iS_gk, iS_bin, iS_neg, iS_not, iS_and, iS_or, iS_ite, iS_cmp, iS_cmp2, iS_tup, iS_lst, iS_dct, iS_idx, iS_slc, iS_attr, iS_call, iS_make, iS_blt, iS_isi, iS_meth, iS_lc, cnd_t, cnd_f, envO_z, envO_n, envO_c, ofO_some, idxI_l, idxI_k, idx_ri, idxS_d, idx_rs, idx_ti, fldO_i, fld_r, eq_d, ne_d, lt_d, le_d, gt_d, ge_d, is_d, isnot_d, in_d, notin_d, map_some, eqA_int, eqA_bl, len_tup, lenO_l, lenO_k, lenO_d, len_ref, Ab.int_int, Ab.add_int, Ab.sub_int, max_int, min_int, setI_ri, Bool.not_true, Bool.not_false, W_ok, W_bad, WS_fl, W_bind, WS_st, sq_nx, sq_rt, sq_bk, sq_ct, WS_seq, en_nx, en_rt, W_end, tn_nx, tn_ct, tn_bk, tn_rt, atI0, atI1, atI2, atI3, W_ofO, setO_0, setO_1, setO_2, get_set_s, get_set_n, get_push_lt, lt_push, lt_set, ne_push, push_n', set_n', get_push_self, mulR, Ab.mod_int, Int.reduceLT, Int.reduceNeg, Int.reduceEq, lstA_ok, tupA_ok, lcE_ok, wipeA, List.set_cons_zero, List.set_cons_succ, ev_lc, ev_lc2, ev_dc, dcE_ok, ev_sup, src_e, src_r, src_en, srcV_t, srcV_s, srcV_r, srcO_l, rngV_n, list_r, list_t, tuple_r, tuple_t, seqO_l, seqO_k, listO_s, tupO_s, List.length_cons, List.length_nil, Nat.reduceAdd, Nat.reduceLeDiff, ne_eq, not_false_eq_true, Option.some.injEq, exists_eq_left', g1])
  refine k _ _ (((S0 ns).push (.lst ((ns.take 60).map .int))).n) ⟨⟨ns.take 60, 0, 0, get_push_self _, ?_, Nat.le_refl _, Int.le_refl _, by rw [List.length_take]; omega⟩, ?_⟩
  · rw [get_push_lt (Nat.lt_succ_self _)]; exact get_push_self _
  · exact Nat.succ_ne_self _
def clI (i : Nat) : Cl := (G.cls[kL.getD i 0]?).getD ⟨"", [], none, [], [], false, 0, [], none⟩
theorem k_all : ∀ i < 30, (G.cls[kL.getD i 0]?).isSome = true ∧ (clI i).xb ≠ 0 ∧ (kL.map fun j => (clI i).sup.contains j) = ((List.range 30).map fun j => (((j : Nat) : Int) == ((i : Nat) : Int))) ∧
    [(clI i).sup.contains 0, decide ((clI i).xb = 1), (clI i).sup.contains 1, decide ((clI i).xb = 2)] = [decide (((i : Nat) : Int) < 25), decide (((i : Nat) : Int) < 25), decide (25 ≤ ((i : Nat) : Int)), decide (25 ≤ ((i : Nat) : Int))] := by decide +kernel
theorem cl_get {i : Nat} (h : i < 30) : G.cls[kL.getD i 0]? = some (clI i) := by
  obtain ⟨h1, _⟩ := k_all i h
  obtain ⟨c, hc⟩ := Option.isSome_iff_exists.mp h1
  unfold clI
  rw [hc]; rfl
def shE (l : List Bool) : Bool := SeqAt.shaped (.list (l.map .bool)) && PyData.eqv (.list (l.map .bool)) (.list (l.map .bool))
theorem eqA_bls {p q : Nat} {l : List Bool} (hl : shE l = true) (h1 : S.get p = some (.lst (l.map .bl))) (h2 : S.get q = some (.lst (l.map .bl))) : eqA S (.ref p) (.ref q) = some true := by
  have e : ∀ l : List Bool, toDs (toD 65 S) (l.map .bl) = some (l.map .bool) := fun l => by
    induction l with
    | nil => rfl
    | cons b l ih => exact toDs_c rfl ih
  obtain ⟨sh, ev⟩ := Bool.and_eq_true_iff.mp hl
  show eqD S (.ref p) (.ref q) = _
  unfold eqD
  rw [toD_ref (n := 65) h1 (e l), toD_ref (n := 65) h2 (e l)]
  show (if (SeqAt.shaped (.list (l.map .bool)) && SeqAt.shaped (.list (l.map .bool))) = true then some (PyData.eqv (.list (l.map .bool)) (.list (l.map .bool))) else none) = _
  rw [sh, ev]; rfl
theorem shE_all : ∀ i < 30, shE ((List.range 30).map fun j => (((j : Nat) : Int) == ((i : Nat) : Int))) = true ∧ shE [decide (((i : Nat) : Int) < 25), decide (((i : Nat) : Int) < 25), decide (25 ≤ ((i : Nat) : Int)), decide (25 ≤ ((i : Nat) : Int))] = true := by decide +kernel
def restL (w : AV) (xs : List AV) (n : Int) : List (Nat × List (Nat × AV)) := [(25, [(4, .int n)]), (26, [(5, .tup xs)]), (27, [(2, w)])]
def lastL (w : AV) (n : Int) : List (Nat × List (Nat × AV)) := [(28, [(2, w)]), (29, [(2, w)]), (30, [(2, w)]), (31, [(6, .int n)])]
def allL (w : AV) (xs : List AV) (n : Int) : List (Nat × List (Nat × AV)) := ((plainL ++ toldL w xs) ++ restL w xs n) ++ lastL w n
theorem allL_k {w : AV} {xs : List AV} {n : Int} : (allL w xs n).map (·.1) = kL := rfl
theorem allL_get {w : AV} {xs : List AV} {n : Int} {i : Nat} (h : i < 30) : ∃ fs, (allL w xs n)[i]? = some (kL.getD i 0, fs) := by
  have hl : (allL w xs n).length = 30 := rfl
  refine ⟨((allL w xs n)[i]'(by omega)).2, ?_⟩
  rw [List.getElem?_eq_getElem (by omega)]
  have e : kL.getD i 0 = ((allL w xs n)[i]'(by omega)).1 := by
    rw [List.getD_eq_getElem?_getD, ← allL_k (w := w) (xs := xs) (n := n), List.getElem?_map, List.getElem?_eq_getElem (by omega)]
    rfl
  rw [e]
/-- the turns over all exceptions -/
theorem law_ok {ns : List Int} : W (callN G fbs 40 8 [.ref 0] (S0 ns)) fun v _ => v = .bl true := by
  refine W_call f8 rfl (by decide) rfl ?_
  unfold b8
  (try simp (config := { maxDischargeDepth := 40 }) only [ok_bind, bad_bind, ok_st, nx_seq, rt_seq, bk_seq, ct_seq, nx_turn, ct_turn, bk_turn, rt_turn, ok_nox, exs_nil, exs_cons, slot_z, slot_s, ev_cst, ev_var, ev_gf, ev_gk, ev_gc, ev_bin, negA_int, ev_neg, tst_bl, ev_not, ev_and, ev_or, ev_ite, ev_cmp, ev_cmp2, rb_some, ch2_t, ch2_f, ev_tup, ev_lst, ev_idx, ev_slc, ev_attr, ev_call, ev_blt, ev_isi, ev_isiE, ev_xmk, ns_xmk, ev_make, ev_meth, evL_nil, evL_cons, evS_nil, evS_star, evS_one, evO_none, evO_some, optA_int, ex_asg, ex_expr, ex_ife, ex_for, ex_whl, ex_ret0, ex_ret, ex_pass, ex_brk, ex_cnt, putS_z, putS_s, asg_nm, asg_tp, asgL_nil, asgL_cons, asg_fld, asg_ix, endF_nx, endF_rt, iS_cst, iS_var, iS_gc, iS_gf, iS_gk, iS_bin, iS_neg, iS_not, iS_and, iS_or, iS_ite, iS_cmp, iS_cmp2, iS_tup, iS_lst, iS_dct, iS_idx, iS_slc, iS_attr, iS_call, iS_make, iS_blt, iS_isi, iS_meth, iS_lc, cnd_t, cnd_f, envO_z, envO_n, envO_c, ofO_some, idxI_l, idxI_k, idx_ri, idxS_d, idx_rs, idx_ti, fldO_i, fld_r, eq_d, ne_d, lt_d, le_d, gt_d, ge_d, is_d, isnot_d, in_d, notin_d, map_some, eqA_int, eqA_bl, len_tup, lenO_l, lenO_k, lenO_d, len_ref, Ab.int_int, Ab.add_int, Ab.sub_int, max_int, min_int, setI_ri, Bool.not_true, Bool.not_false, W_ok, W_bad, WS_fl, W_bind, WS_st, sq_nx, sq_rt, sq_bk, sq_ct, WS_seq, en_nx, en_rt, W_end, tn_nx, tn_ct, tn_bk, tn_rt, atI0, atI1, atI2, atI3, W_ofO, setO_0, setO_1, setO_2, get_set_s, get_set_n, get_push_lt, lt_push, lt_set, ne_push, push_n', set_n', get_push_self, mulR, Ab.mod_int, Int.reduceLT, Int.reduceNeg, Int.reduceEq, lstA_ok, tupA_ok, lcE_ok, wipeA, List.set_cons_zero, List.set_cons_succ, ev_lc, ev_lc2, ev_dc, dcE_ok, ev_sup, src_e, src_r, src_en, srcV_t, srcV_s, srcV_r, srcO_l, rngV_n, list_r, list_t, tuple_r, tuple_t, seqO_l, seqO_k, listO_s, tupO_s, List.length_cons, List.length_nil, Nat.reduceAdd, Nat.reduceLeDiff, ne_eq, not_false_eq_true, Option.some.injEq, exists_eq_left'])
  refine pen_ok fun S r c hp => ?_
  (try simp (config := { maxDischargeDepth := 40 }) only [ok_bind, bad_bind, ok_st, nx_seq, rt_seq, bk_seq, ct_seq, nx_turn, ct_turn, bk_turn, rt_turn, ok_nox, exs_nil, exs_cons, slot_z, slot_s, ev_cst, ev_var, ev_gf, ev_gk, ev_gc, ev_bin, negA_int, ev_neg, tst_bl, ev_not, ev_and, ev_or, ev_ite, ev_cmp, ev_cmp2, rb_some, ch2_t, ch2_f, ev_tup, ev_lst, ev_idx, ev_slc, ev_attr, ev_call, ev_blt, ev_isi, ev_isiE, ev_xmk, ns_xmk, ev_make, ev_meth, evL_nil, evL_cons, evS_nil, evS_star, evS_one, evO_none, evO_some, optA_int, ex_asg, ex_expr, ex_ife, ex_for, ex_whl, ex_ret0, ex_ret, ex_pass, ex_brk, ex_cnt, putS_z, putS_s, asg_nm, asg_tp, asgL_nil, asgL_cons, asg_fld, asg_ix, endF_nx, endF_rt, iS_cst, iS_var, iS_gc, iS_gf, iS_gk, iS_bin, iS_neg, iS_not, iS_and, iS_or, iS_ite, iS_cmp, iS_cmp2, iS_tup, iS_lst, iS_dct, iS_idx, iS_slc, iS_attr, iS_call, iS_make, iS_blt, iS_isi, iS_meth, iS_lc, cnd_t, cnd_f, envO_z, envO_n, envO_c, ofO_some, idxI_l, idxI_k, idx_ri, idxS_d, idx_rs, idx_ti, fldO_i, fld_r, eq_d, ne_d, lt_d, le_d, gt_d, ge_d, is_d, isnot_d, in_d, notin_d, map_some, eqA_int, eqA_bl, len_tup, lenO_l, lenO_k, lenO_d, len_ref, Ab.int_int, Ab.add_int, Ab.sub_int, max_int, min_int, setI_ri, Bool.not_true, Bool.not_false, W_ok, W_bad, WS_fl, W_bind, WS_st, sq_nx, sq_rt, sq_bk, sq_ct, WS_seq, en_nx, en_rt, W_end, tn_nx, tn_ct, tn_bk, tn_rt, atI0, atI1, atI2, atI3, W_ofO, setO_0, setO_1, setO_2, get_set_s, get_set_n, get_push_lt, lt_push, lt_set, ne_push, push_n', set_n', get_push_self, mulR, Ab.mod_int, Int.reduceLT, Int.reduceNeg, Int.reduceEq, lstA_ok, tupA_ok, lcE_ok, wipeA, List.set_cons_zero, List.set_cons_succ, ev_lc, ev_lc2, ev_dc, dcE_ok, ev_sup, src_e, src_r, src_en, srcV_t, srcV_s, srcV_r, srcO_l, rngV_n, list_r, list_t, tuple_r, tuple_t, seqO_l, seqO_k, listO_s, tupO_s, List.length_cons, List.length_nil, Nat.reduceAdd, Nat.reduceLeDiff, ne_eq, not_false_eq_true, Option.some.injEq, exists_eq_left'])
  have e3 : ∀ S, rngV (.int 2) S = .ok (.rng 0 2) S := fun S => rngV_n (n := 2) (by omega)
  (try simp (config := { maxDischargeDepth := 40 }) only [ok_bind, bad_bind, ok_st, nx_seq, rt_seq, bk_seq, ct_seq, nx_turn, ct_turn, bk_turn, rt_turn, ok_nox, exs_nil, exs_cons, slot_z, slot_s, ev_cst, ev_var, ev_gf, ev_gk, ev_gc, ev_bin, negA_int, ev_neg, tst_bl, ev_not, ev_and, ev_or, ev_ite, ev_cmp, ev_cmp2, rb_some, ch2_t, ch2_f, ev_tup, ev_lst, ev_idx, ev_slc, ev_attr, ev_call, ev_blt, ev_isi, ev_isiE, ev_xmk, ns_xmk, ev_make, ev_meth, evL_nil, evL_cons, evS_nil, evS_star, evS_one, evO_none, evO_some, optA_int, ex_asg, ex_expr, ex_ife, ex_for, ex_whl, ex_ret0, ex_ret, ex_pass, ex_brk, ex_cnt, putS_z, putS_s, asg_nm, asg_tp, asgL_nil, asgL_cons, asg_fld, asg_ix, endF_nx, endF_rt, iS_cst, iS_var, iS_gc, iS_gf, iS_gk, iS_bin, iS_neg, iS_not, iS_and, iS_or, iS_ite, iS_cmp, iS_cmp2, iS_tup, iS_lst, iS_dct, iS_idx, iS_slc, iS_attr, iS_call, iS_make, iS_blt, iS_isi, iS_meth, iS_lc, cnd_t, cnd_f, envO_z, envO_n, envO_c, ofO_some, idxI_l, idxI_k, idx_ri, idxS_d, idx_rs, idx_ti, fldO_i, fld_r, eq_d, ne_d, lt_d, le_d, gt_d, ge_d, is_d, isnot_d, in_d, notin_d, map_some, eqA_int, eqA_bl, len_tup, lenO_l, lenO_k, lenO_d, len_ref, Ab.int_int, Ab.add_int, Ab.sub_int, max_int, min_int, setI_ri, Bool.not_true, Bool.not_false, W_ok, W_bad, WS_fl, W_bind, WS_st, sq_nx, sq_rt, sq_bk, sq_ct, WS_seq, en_nx, en_rt, W_end, tn_nx, tn_ct, tn_bk, tn_rt, atI0, atI1, atI2, atI3, W_ofO, setO_0, setO_1, setO_2, get_set_s, get_set_n, get_push_lt, lt_push, lt_set, ne_push, push_n', set_n', get_push_self, mulR, Ab.mod_int, Int.reduceLT, Int.reduceNeg, Int.reduceEq, lstA_ok, tupA_ok, lcE_ok, wipeA, List.set_cons_zero, List.set_cons_succ, ev_lc, ev_lc2, ev_dc, dcE_ok, ev_sup, src_e, src_r, src_en, srcV_t, srcV_s, srcV_r, srcO_l, rngV_n, list_r, list_t, tuple_r, tuple_t, seqO_l, seqO_k, listO_s, tupO_s, List.length_cons, List.length_nil, Nat.reduceAdd, Nat.reduceLeDiff, ne_eq, not_false_eq_true, Option.some.injEq, exists_eq_left', e3])
  refine wfor (N := 2) (I := fun i ρ S' => ∃ z2 z3 z4 z5 z6 z7, ρ = [some (.ref 0), some (.ref r), z2, z3, z4, z5, z6, z7, none] ∧ Pen S' r c (1000 * i)) ⟨_, _, _, _, _, _, rfl, hp⟩ (by decide) ?_ ?_ ?_
  · rintro i ρ S hi ⟨z2, z3, z4, z5, z6, z7, rfl, hp⟩
    refine ⟨_, at_rng0 hi, ?_⟩
    have hr : r < S.n := by obtain ⟨⟨_, _, _, h1, _⟩, _⟩ := hp; exact Hs.lt_of_get h1
    have hc : c < S.n := by obtain ⟨⟨_, _, _, _, h1, _⟩, _⟩ := hp; exact Hs.lt_of_get h1
    have m100 : ∀ S : Hs, binA .Mult (.str s_x) (.int 100) S = .ok (.str (repS s_x 100)) S := fun S => by kernel_rfl
    have p30 : ∀ S : Hs, binA .Pow (.int 10) (.int 30) S = .ok (.int (10 ^ 30)) S := fun S => rfl
    (try simp (config := { maxDischargeDepth := 40 }) only [ok_bind, bad_bind, ok_st, nx_seq, rt_seq, bk_seq, ct_seq, nx_turn, ct_turn, bk_turn, rt_turn, ok_nox, exs_nil, exs_cons, slot_z, slot_s, ev_cst, ev_var, ev_gf, ev_gk, ev_gc, ev_bin, negA_int, ev_neg, tst_bl, ev_not, ev_and, ev_or, ev_ite, ev_cmp, ev_cmp2, rb_some, ch2_t, ch2_f, ev_tup, ev_lst, ev_idx, ev_slc, ev_attr, ev_call, ev_blt, ev_isi, ev_isiE, ev_xmk, ns_xmk, ev_make, ev_meth, evL_nil, evL_cons, evS_nil, evS_star, evS_one, evO_none, evO_some, optA_int, ex_asg, ex_expr, ex_ife, ex_for, ex_whl, ex_ret0, ex_ret, ex_pass, ex_brk, ex_cnt, putS_z, putS_s, asg_nm, asg_tp, asgL_nil, asgL_cons, asg_fld, asg_ix, endF_nx, endF_rt, iS_cst, iS_var, iS_gc, iS_gf, iS_gk, iS_bin, iS_neg, iS_not, iS_and, iS_or, iS_ite, iS_cmp, iS_cmp2, iS_tup, iS_lst, iS_dct, iS_idx, iS_slc, iS_attr, iS_call, iS_make, iS_blt, iS_isi, iS_meth, iS_lc, cnd_t, cnd_f, envO_z, envO_n, envO_c, ofO_some, idxI_l, idxI_k, idx_ri, idxS_d, idx_rs, idx_ti, fldO_i, fld_r, eq_d, ne_d, lt_d, le_d, gt_d, ge_d, is_d, isnot_d, in_d, notin_d, map_some, eqA_int, eqA_bl, len_tup, lenO_l, lenO_k, lenO_d, len_ref, Ab.int_int, Ab.add_int, Ab.sub_int, max_int, min_int, setI_ri, Bool.not_true, Bool.not_false, W_ok, W_bad, WS_fl, W_bind, WS_st, sq_nx, sq_rt, sq_bk, sq_ct, WS_seq, en_nx, en_rt, W_end, tn_nx, tn_ct, tn_bk, tn_rt, atI0, atI1, atI2, atI3, W_ofO, setO_0, setO_1, setO_2, get_set_s, get_set_n, get_push_lt, lt_push, lt_set, ne_push, push_n', set_n', get_push_self, mulR, Ab.mod_int, Int.reduceLT, Int.reduceNeg, Int.reduceEq, lstA_ok, tupA_ok, lcE_ok, wipeA, List.set_cons_zero, List.set_cons_succ, ev_lc, ev_lc2, ev_dc, dcE_ok, ev_sup, src_e, src_r, src_en, srcV_t, srcV_s, srcV_r, srcO_l, rngV_n, list_r, list_t, tuple_r, tuple_t, seqO_l, seqO_k, listO_s, tupO_s, List.length_cons, List.length_nil, Nat.reduceAdd, Nat.reduceLeDiff, ne_eq, not_false_eq_true, Option.some.injEq, exists_eq_left', m100, p30])
    refine draw_ok (d := 37) (u := 7) (Pen.fr hp (M := fun _ => False) Ab.Fr.push id id) (by omega) (by decide) (by decide) fun S1 k1 hp1 f1 hk1 => ?_
    have g1 : S1.get S.n = some (.lst words) := f1.at (get_push_self _) (Nat.ne_of_gt hr)
    obtain ⟨w, hw⟩ : ∃ w, words[k1]? = some w := ⟨_, List.getElem?_eq_getElem hk1⟩
    obtain ⟨dw, hdw⟩ : ∃ w, dws[k1]? = some w := ⟨_, List.getElem?_eq_getElem hk1⟩
    have aw : atI words (k1 : Int) = some w := atI_nat hw
    have hr1 : r < S1.n := Nat.lt_of_lt_of_le (lt_push hr) f1.n
    (try simp (config := { maxDischargeDepth := 40 }) only [ok_bind, bad_bind, ok_st, nx_seq, rt_seq, bk_seq, ct_seq, nx_turn, ct_turn, bk_turn, rt_turn, ok_nox, exs_nil, exs_cons, slot_z, slot_s, ev_cst, ev_var, ev_gf, ev_gk, ev_gc, ev_bin, negA_int, ev_neg, tst_bl, ev_not, ev_and, ev_or, ev_ite, ev_cmp, ev_cmp2, rb_some, ch2_t, ch2_f, ev_tup, ev_lst, ev_idx, ev_slc, ev_attr, ev_call, ev_blt, ev_isi, ev_isiE, ev_xmk, ns_xmk, ev_make, ev_meth, evL_nil, evL_cons, evS_nil, evS_star, evS_one, evO_none, evO_some, optA_int, ex_asg, ex_expr, ex_ife, ex_for, ex_whl, ex_ret0, ex_ret, ex_pass, ex_brk, ex_cnt, putS_z, putS_s, asg_nm, asg_tp, asgL_nil, asgL_cons, asg_fld, asg_ix, endF_nx, endF_rt, iS_cst, iS_var, iS_gc, iS_gf, iS_gk, iS_bin, iS_neg, iS_not, iS_and, iS_or, iS_ite, iS_cmp, iS_cmp2, iS_tup, iS_lst, iS_dct, iS_idx, iS_slc, iS_attr, iS_call, iS_make, iS_blt, iS_isi, iS_meth, iS_lc, cnd_t, cnd_f, envO_z, envO_n, envO_c, ofO_some, idxI_l, idxI_k, idx_ri, idxS_d, idx_rs, idx_ti, fldO_i, fld_r, eq_d, ne_d, lt_d, le_d, gt_d, ge_d, is_d, isnot_d, in_d, notin_d, map_some, eqA_int, eqA_bl, len_tup, lenO_l, lenO_k, lenO_d, len_ref, Ab.int_int, Ab.add_int, Ab.sub_int, max_int, min_int, setI_ri, Bool.not_true, Bool.not_false, W_ok, W_bad, WS_fl, W_bind, WS_st, sq_nx, sq_rt, sq_bk, sq_ct, WS_seq, en_nx, en_rt, W_end, tn_nx, tn_ct, tn_bk, tn_rt, atI0, atI1, atI2, atI3, W_ofO, setO_0, setO_1, setO_2, get_set_s, get_set_n, get_push_lt, lt_push, lt_set, ne_push, push_n', set_n', get_push_self, mulR, Ab.mod_int, Int.reduceLT, Int.reduceNeg, Int.reduceEq, lstA_ok, tupA_ok, lcE_ok, wipeA, List.set_cons_zero, List.set_cons_succ, ev_lc, ev_lc2, ev_dc, dcE_ok, ev_sup, src_e, src_r, src_en, srcV_t, srcV_s, srcV_r, srcO_l, rngV_n, list_r, list_t, tuple_r, tuple_t, seqO_l, seqO_k, listO_s, tupO_s, List.length_cons, List.length_nil, Nat.reduceAdd, Nat.reduceLeDiff, ne_eq, not_false_eq_true, Option.some.injEq, exists_eq_left', g1, aw])
    refine draw_ok (d := 37) (u := 5) (Pen.fr hp1 (M := fun _ => False) Ab.Fr.push id id) (by omega) (by decide) (by decide) fun S2 k2 hp2 f2 hk2 => ?_
    have g2 : S2.get S1.n = some (.lst (nums.map .int)) := f2.at (get_push_self _) (Nat.ne_of_gt hr1)
    obtain ⟨n, hn⟩ : ∃ n, nums[k2]? = some n := ⟨_, List.getElem?_eq_getElem hk2⟩
    have an : atI (nums.map AV.int) (k2 : Int) = some (.int n) := atI_nat (by rw [List.getElem?_map, hn]; rfl)
    have hr2 : r < S2.n := Nat.lt_of_lt_of_le (lt_push hr1) f2.n
    (try simp (config := { maxDischargeDepth := 40 }) only [ok_bind, bad_bind, ok_st, nx_seq, rt_seq, bk_seq, ct_seq, nx_turn, ct_turn, bk_turn, rt_turn, ok_nox, exs_nil, exs_cons, slot_z, slot_s, ev_cst, ev_var, ev_gf, ev_gk, ev_gc, ev_bin, negA_int, ev_neg, tst_bl, ev_not, ev_and, ev_or, ev_ite, ev_cmp, ev_cmp2, rb_some, ch2_t, ch2_f, ev_tup, ev_lst, ev_idx, ev_slc, ev_attr, ev_call, ev_blt, ev_isi, ev_isiE, ev_xmk, ns_xmk, ev_make, ev_meth, evL_nil, evL_cons, evS_nil, evS_star, evS_one, evO_none, evO_some, optA_int, ex_asg, ex_expr, ex_ife, ex_for, ex_whl, ex_ret0, ex_ret, ex_pass, ex_brk, ex_cnt, putS_z, putS_s, asg_nm, asg_tp, asgL_nil, asgL_cons, asg_fld, asg_ix, endF_nx, endF_rt, iS_cst, iS_var, iS_gc, iS_gf, iS_gk, iS_bin, iS_neg, iS_not, iS_and, iS_or, iS_ite, iS_cmp, iS_cmp2, iS_tup, iS_lst, iS_dct, iS_idx, iS_slc, iS_attr, iS_call, iS_make, iS_blt, iS_isi, iS_meth, iS_lc, cnd_t, cnd_f, envO_z, envO_n, envO_c, ofO_some, idxI_l, idxI_k, idx_ri, idxS_d, idx_rs, idx_ti, fldO_i, fld_r, eq_d, ne_d, lt_d, le_d, gt_d, ge_d, is_d, isnot_d, in_d, notin_d, map_some, eqA_int, eqA_bl, len_tup, lenO_l, lenO_k, lenO_d, len_ref, Ab.int_int, Ab.add_int, Ab.sub_int, max_int, min_int, setI_ri, Bool.not_true, Bool.not_false, W_ok, W_bad, WS_fl, W_bind, WS_st, sq_nx, sq_rt, sq_bk, sq_ct, WS_seq, en_nx, en_rt, W_end, tn_nx, tn_ct, tn_bk, tn_rt, atI0, atI1, atI2, atI3, W_ofO, setO_0, setO_1, setO_2, get_set_s, get_set_n, get_push_lt, lt_push, lt_set, ne_push, push_n', set_n', get_push_self, mulR, Ab.mod_int, Int.reduceLT, Int.reduceNeg, Int.reduceEq, lstA_ok, tupA_ok, lcE_ok, wipeA, List.set_cons_zero, List.set_cons_succ, ev_lc, ev_lc2, ev_dc, dcE_ok, ev_sup, src_e, src_r, src_en, srcV_t, srcV_s, srcV_r, srcO_l, rngV_n, list_r, list_t, tuple_r, tuple_t, seqO_l, seqO_k, listO_s, tupO_s, List.length_cons, List.length_nil, Nat.reduceAdd, Nat.reduceLeDiff, ne_eq, not_false_eq_true, Option.some.injEq, exists_eq_left', g2, an])
    have xD : Ext S2 ((((S2.push (AO.lst [AV.str s_a, AV.str s_b])).push (AO.lst [])).push (AO.lst [AV.int 0, AV.int 1, AV.int 0])).push (AO.lst [AV.ref S2.n, AV.ref (S2.n + 1), AV.tup [AV.str s_a], AV.ref (S2.n + 1 + 1), AV.tup [AV.tup [AV.str s_x, AV.str s_y]]])) := ext_push (ext_push (ext_push (ext_push Ab.Fr.refl)))
    refine draw_ok (d := 37) (u := 5) (Pen.fr hp2 xD id id) (by omega) (by decide) (by decide) fun S3 k3 hp3 f3 hk3 => ?_
    have ga : S3.get S2.n = some (.lst [.str s_a, .str s_b]) := f3.at (by rw [get_push_lt (by rw [push_n', push_n', push_n']; omega), get_push_lt (by rw [push_n', push_n']; omega), get_push_lt (by rw [push_n']; omega)]; exact get_push_self _) (Nat.ne_of_gt hr2)
    have gb : S3.get (S2.n + 1) = some (.lst []) := f3.at (by rw [get_push_lt (by rw [push_n', push_n', push_n']; omega), get_push_lt (by rw [push_n', push_n']; omega)]; exact get_push_eq rfl) (by omega)
    have gc : S3.get (S2.n + 1 + 1) = some (.lst [.int 0, .int 1, .int 0]) := f3.at (by rw [get_push_lt (by rw [push_n', push_n', push_n']; omega)]; exact get_push_eq rfl) (by omega)
    have gd : S3.get (S2.n + 1 + 1 + 1) = some (.lst [AV.ref S2.n, AV.ref (S2.n + 1), AV.tup [AV.str s_a], AV.ref (S2.n + 1 + 1), AV.tup [AV.tup [AV.str s_x, AV.str s_y]]]) := f3.at (get_push_eq rfl) (by omega)
    have sqr : ∀ (p : Nat) (xs : List AV), S3.get p = some (.lst xs) → Sqx S3 (.ref p) xs := fun p xs h S' x => by
      show (match S'.get p with | some o => o.seq | none => none) = _
      rw [Ext.at x h]; rfl
    have hsx : ∃ s xs ds, [AV.ref S2.n, AV.ref (S2.n + 1), AV.tup [AV.str s_a], AV.ref (S2.n + 1 + 1), AV.tup [AV.tup [AV.str s_x, AV.str s_y]]][k3]? = some s ∧ mems[k3]? = some xs ∧ dms[k3]? = some ds ∧ Sqx S3 s xs := by
      match k3, hk3 with
      | 0, _ => exact ⟨_, _, _, rfl, rfl, rfl, sqr _ _ ga⟩
      | 1, _ => exact ⟨_, _, _, rfl, rfl, rfl, sqr _ _ gb⟩
      | 2, _ => exact ⟨_, _, _, rfl, rfl, rfl, fun _ _ => rfl⟩
      | 3, _ => exact ⟨_, _, _, rfl, rfl, rfl, sqr _ _ gc⟩
      | 4, _ => exact ⟨_, _, _, rfl, rfl, rfl, fun _ _ => rfl⟩
    obtain ⟨s, xs, ds, hs1, hxs, hds, hs⟩ := hsx
    have as : atI [AV.ref S2.n, AV.ref (S2.n + 1), AV.tup [AV.str s_a], AV.ref (S2.n + 1 + 1), AV.tup [AV.tup [AV.str s_x, AV.str s_y]]] (k3 : Int) = some s := atI_nat hs1
    have K : Kf w xs n dw ds := kf hw hdw hxs hds (List.mem_of_getElem? hn)
    (try simp (config := { maxDischargeDepth := 40 }) only [ok_bind, bad_bind, ok_st, nx_seq, rt_seq, bk_seq, ct_seq, nx_turn, ct_turn, bk_turn, rt_turn, ok_nox, exs_nil, exs_cons, slot_z, slot_s, ev_cst, ev_var, ev_gf, ev_gk, ev_gc, ev_bin, negA_int, ev_neg, tst_bl, ev_not, ev_and, ev_or, ev_ite, ev_cmp, ev_cmp2, rb_some, ch2_t, ch2_f, ev_tup, ev_lst, ev_idx, ev_slc, ev_attr, ev_call, ev_blt, ev_isi, ev_isiE, ev_xmk, ns_xmk, ev_make, ev_meth, evL_nil, evL_cons, evS_nil, evS_star, evS_one, evO_none, evO_some, optA_int, ex_asg, ex_expr, ex_ife, ex_for, ex_whl, ex_ret0, ex_ret, ex_pass, ex_brk, ex_cnt, putS_z, putS_s, asg_nm, asg_tp, asgL_nil, asgL_cons, asg_fld, asg_ix, endF_nx, endF_rt, iS_cst, iS_var, iS_gc, iS_gf, iS_gk, iS_bin, iS_neg, iS_not, iS_and, iS_or, iS_ite, iS_cmp, iS_cmp2, iS_tup, iS_lst, iS_dct, iS_idx, iS_slc, iS_attr, iS_call, iS_make, iS_blt, iS_isi, iS_meth, iS_lc, cnd_t, cnd_f, envO_z, envO_n, envO_c, ofO_some, idxI_l, idxI_k, idx_ri, idxS_d, idx_rs, idx_ti, fldO_i, fld_r, eq_d, ne_d, lt_d, le_d, gt_d, ge_d, is_d, isnot_d, in_d, notin_d, map_some, eqA_int, eqA_bl, len_tup, lenO_l, lenO_k, lenO_d, len_ref, Ab.int_int, Ab.add_int, Ab.sub_int, max_int, min_int, setI_ri, Bool.not_true, Bool.not_false, W_ok, W_bad, WS_fl, W_bind, WS_st, sq_nx, sq_rt, sq_bk, sq_ct, WS_seq, en_nx, en_rt, W_end, tn_nx, tn_ct, tn_bk, tn_rt, atI0, atI1, atI2, atI3, W_ofO, setO_0, setO_1, setO_2, get_set_s, get_set_n, get_push_lt, lt_push, lt_set, ne_push, push_n', set_n', get_push_self, mulR, Ab.mod_int, Int.reduceLT, Int.reduceNeg, Int.reduceEq, lstA_ok, tupA_ok, lcE_ok, wipeA, List.set_cons_zero, List.set_cons_succ, ev_lc, ev_lc2, ev_dc, dcE_ok, ev_sup, src_e, src_r, src_en, srcV_t, srcV_s, srcV_r, srcO_l, rngV_n, list_r, list_t, tuple_r, tuple_t, seqO_l, seqO_k, listO_s, tupO_s, List.length_cons, List.length_nil, Nat.reduceAdd, Nat.reduceLeDiff, ne_eq, not_false_eq_true, Option.some.injEq, exists_eq_left', gd, as])
    clear ga gb gc gd sqr hs1 as xD f3 g1 g2 f1 f2 aw an
    refine plain_ok (d := 37) fun rp S4 vp x4 g4 o4 => ?_
    (try simp (config := { maxDischargeDepth := 40 }) only [ok_bind, bad_bind, ok_st, nx_seq, rt_seq, bk_seq, ct_seq, nx_turn, ct_turn, bk_turn, rt_turn, ok_nox, exs_nil, exs_cons, slot_z, slot_s, ev_cst, ev_var, ev_gf, ev_gk, ev_gc, ev_bin, negA_int, ev_neg, tst_bl, ev_not, ev_and, ev_or, ev_ite, ev_cmp, ev_cmp2, rb_some, ch2_t, ch2_f, ev_tup, ev_lst, ev_idx, ev_slc, ev_attr, ev_call, ev_blt, ev_isi, ev_isiE, ev_xmk, ns_xmk, ev_make, ev_meth, evL_nil, evL_cons, evS_nil, evS_star, evS_one, evO_none, evO_some, optA_int, ex_asg, ex_expr, ex_ife, ex_for, ex_whl, ex_ret0, ex_ret, ex_pass, ex_brk, ex_cnt, putS_z, putS_s, asg_nm, asg_tp, asgL_nil, asgL_cons, asg_fld, asg_ix, endF_nx, endF_rt, iS_cst, iS_var, iS_gc, iS_gf, iS_gk, iS_bin, iS_neg, iS_not, iS_and, iS_or, iS_ite, iS_cmp, iS_cmp2, iS_tup, iS_lst, iS_dct, iS_idx, iS_slc, iS_attr, iS_call, iS_make, iS_blt, iS_isi, iS_meth, iS_lc, cnd_t, cnd_f, envO_z, envO_n, envO_c, ofO_some, idxI_l, idxI_k, idx_ri, idxS_d, idx_rs, idx_ti, fldO_i, fld_r, eq_d, ne_d, lt_d, le_d, gt_d, ge_d, is_d, isnot_d, in_d, notin_d, map_some, eqA_int, eqA_bl, len_tup, lenO_l, lenO_k, lenO_d, len_ref, Ab.int_int, Ab.add_int, Ab.sub_int, max_int, min_int, setI_ri, Bool.not_true, Bool.not_false, W_ok, W_bad, WS_fl, W_bind, WS_st, sq_nx, sq_rt, sq_bk, sq_ct, WS_seq, en_nx, en_rt, W_end, tn_nx, tn_ct, tn_bk, tn_rt, atI0, atI1, atI2, atI3, W_ofO, setO_0, setO_1, setO_2, get_set_s, get_set_n, get_push_lt, lt_push, lt_set, ne_push, push_n', set_n', get_push_self, mulR, Ab.mod_int, Int.reduceLT, Int.reduceNeg, Int.reduceEq, lstA_ok, tupA_ok, lcE_ok, wipeA, List.set_cons_zero, List.set_cons_succ, ev_lc, ev_lc2, ev_dc, dcE_ok, ev_sup, src_e, src_r, src_en, srcV_t, srcV_s, srcV_r, srcO_l, rngV_n, list_r, list_t, tuple_r, tuple_t, seqO_l, seqO_k, listO_s, tupO_s, List.length_cons, List.length_nil, Nat.reduceAdd, Nat.reduceLeDiff, ne_eq, not_false_eq_true, Option.some.injEq, exists_eq_left'])
    refine told_ok (d := 37) K.sw (hs.ext x4) fun rt S5 vt x5 g5 o5 => ?_
    have l4 : vp.length = 11 := o4.len
    have l5 : vt.length = 12 := o5.len
    have g4' := Ext.at x5 g4
    (try simp (config := { maxDischargeDepth := 40 }) only [ok_bind, bad_bind, ok_st, nx_seq, rt_seq, bk_seq, ct_seq, nx_turn, ct_turn, bk_turn, rt_turn, ok_nox, exs_nil, exs_cons, slot_z, slot_s, ev_cst, ev_var, ev_gf, ev_gk, ev_gc, ev_bin, negA_int, ev_neg, tst_bl, ev_not, ev_and, ev_or, ev_ite, ev_cmp, ev_cmp2, rb_some, ch2_t, ch2_f, ev_tup, ev_lst, ev_idx, ev_slc, ev_attr, ev_call, ev_blt, ev_isi, ev_isiE, ev_xmk, ns_xmk, ev_make, ev_meth, evL_nil, evL_cons, evS_nil, evS_star, evS_one, evO_none, evO_some, optA_int, ex_asg, ex_expr, ex_ife, ex_for, ex_whl, ex_ret0, ex_ret, ex_pass, ex_brk, ex_cnt, putS_z, putS_s, asg_nm, asg_tp, asgL_nil, asgL_cons, asg_fld, asg_ix, endF_nx, endF_rt, iS_cst, iS_var, iS_gc, iS_gf, iS_gk, iS_bin, iS_neg, iS_not, iS_and, iS_or, iS_ite, iS_cmp, iS_cmp2, iS_tup, iS_lst, iS_dct, iS_idx, iS_slc, iS_attr, iS_call, iS_make, iS_blt, iS_isi, iS_meth, iS_lc, cnd_t, cnd_f, envO_z, envO_n, envO_c, ofO_some, idxI_l, idxI_k, idx_ri, idxS_d, idx_rs, idx_ti, fldO_i, fld_r, eq_d, ne_d, lt_d, le_d, gt_d, ge_d, is_d, isnot_d, in_d, notin_d, map_some, eqA_int, eqA_bl, len_tup, lenO_l, lenO_k, lenO_d, len_ref, Ab.int_int, Ab.add_int, Ab.sub_int, max_int, min_int, setI_ri, Bool.not_true, Bool.not_false, W_ok, W_bad, WS_fl, W_bind, WS_st, sq_nx, sq_rt, sq_bk, sq_ct, WS_seq, en_nx, en_rt, W_end, tn_nx, tn_ct, tn_bk, tn_rt, atI0, atI1, atI2, atI3, W_ofO, setO_0, setO_1, setO_2, get_set_s, get_set_n, get_push_lt, lt_push, lt_set, ne_push, push_n', set_n', get_push_self, mulR, Ab.mod_int, Int.reduceLT, Int.reduceNeg, Int.reduceEq, lstA_ok, tupA_ok, lcE_ok, wipeA, List.set_cons_zero, List.set_cons_succ, ev_lc, ev_lc2, ev_dc, dcE_ok, ev_sup, src_e, src_r, src_en, srcV_t, srcV_s, srcV_r, srcO_l, rngV_n, list_r, list_t, tuple_r, tuple_t, seqO_l, seqO_k, listO_s, tupO_s, List.length_cons, List.length_nil, Nat.reduceAdd, Nat.reduceLeDiff, ne_eq, not_false_eq_true, Option.some.injEq, exists_eq_left', g4', g5, l4, l5, cat_rr, catO_l, get_push_eq, Nat.lt_add_right_iff_pos, Nat.add_lt_add_iff_left, Nat.reduceLT, Nat.add_assoc, Nat.reduceAdd, Nat.add_left_cancel_iff, List.cons_append, List.nil_append, List.length_cons, List.length_nil, Nat.reduceLeDiff, Nat.zero_add, Nat.lt_irrefl, Nat.reduceEqDiff, List.length_append])
    have q5 : Ext S3 (S5.push (AO.lst (vp ++ vt))) := (x4.trans x5).trans Ab.Fr.push
    refine m25 (d := 38) K.sn fun v25 S25 x25 o25 => ?_
    (try simp (config := { maxDischargeDepth := 40 }) only [ok_bind, bad_bind, ok_st, nx_seq, rt_seq, bk_seq, ct_seq, nx_turn, ct_turn, bk_turn, rt_turn, ok_nox, exs_nil, exs_cons, slot_z, slot_s, ev_cst, ev_var, ev_gf, ev_gk, ev_gc, ev_bin, negA_int, ev_neg, tst_bl, ev_not, ev_and, ev_or, ev_ite, ev_cmp, ev_cmp2, rb_some, ch2_t, ch2_f, ev_tup, ev_lst, ev_idx, ev_slc, ev_attr, ev_call, ev_blt, ev_isi, ev_isiE, ev_xmk, ns_xmk, ev_make, ev_meth, evL_nil, evL_cons, evS_nil, evS_star, evS_one, evO_none, evO_some, optA_int, ex_asg, ex_expr, ex_ife, ex_for, ex_whl, ex_ret0, ex_ret, ex_pass, ex_brk, ex_cnt, putS_z, putS_s, asg_nm, asg_tp, asgL_nil, asgL_cons, asg_fld, asg_ix, endF_nx, endF_rt, iS_cst, iS_var, iS_gc, iS_gf, iS_gk, iS_bin, iS_neg, iS_not, iS_and, iS_or, iS_ite, iS_cmp, iS_cmp2, iS_tup, iS_lst, iS_dct, iS_idx, iS_slc, iS_attr, iS_call, iS_make, iS_blt, iS_isi, iS_meth, iS_lc, cnd_t, cnd_f, envO_z, envO_n, envO_c, ofO_some, idxI_l, idxI_k, idx_ri, idxS_d, idx_rs, idx_ti, fldO_i, fld_r, eq_d, ne_d, lt_d, le_d, gt_d, ge_d, is_d, isnot_d, in_d, notin_d, map_some, eqA_int, eqA_bl, len_tup, lenO_l, lenO_k, lenO_d, len_ref, Ab.int_int, Ab.add_int, Ab.sub_int, max_int, min_int, setI_ri, Bool.not_true, Bool.not_false, W_ok, W_bad, WS_fl, W_bind, WS_st, sq_nx, sq_rt, sq_bk, sq_ct, WS_seq, en_nx, en_rt, W_end, tn_nx, tn_ct, tn_bk, tn_rt, atI0, atI1, atI2, atI3, W_ofO, setO_0, setO_1, setO_2, get_set_s, get_set_n, get_push_lt, lt_push, lt_set, ne_push, push_n', set_n', get_push_self, mulR, Ab.mod_int, Int.reduceLT, Int.reduceNeg, Int.reduceEq, lstA_ok, tupA_ok, lcE_ok, wipeA, List.set_cons_zero, List.set_cons_succ, ev_lc, ev_lc2, ev_dc, dcE_ok, ev_sup, src_e, src_r, src_en, srcV_t, srcV_s, srcV_r, srcO_l, rngV_n, list_r, list_t, tuple_r, tuple_t, seqO_l, seqO_k, listO_s, tupO_s, List.length_cons, List.length_nil, Nat.reduceAdd, Nat.reduceLeDiff, ne_eq, not_false_eq_true, Option.some.injEq, exists_eq_left'])
    refine m26 (d := 38) (hs.ext (q5.trans x25)) fun v26 S26 x26 o26 => ?_
    (try simp (config := { maxDischargeDepth := 40 }) only [ok_bind, bad_bind, ok_st, nx_seq, rt_seq, bk_seq, ct_seq, nx_turn, ct_turn, bk_turn, rt_turn, ok_nox, exs_nil, exs_cons, slot_z, slot_s, ev_cst, ev_var, ev_gf, ev_gk, ev_gc, ev_bin, negA_int, ev_neg, tst_bl, ev_not, ev_and, ev_or, ev_ite, ev_cmp, ev_cmp2, rb_some, ch2_t, ch2_f, ev_tup, ev_lst, ev_idx, ev_slc, ev_attr, ev_call, ev_blt, ev_isi, ev_isiE, ev_xmk, ns_xmk, ev_make, ev_meth, evL_nil, evL_cons, evS_nil, evS_star, evS_one, evO_none, evO_some, optA_int, ex_asg, ex_expr, ex_ife, ex_for, ex_whl, ex_ret0, ex_ret, ex_pass, ex_brk, ex_cnt, putS_z, putS_s, asg_nm, asg_tp, asgL_nil, asgL_cons, asg_fld, asg_ix, endF_nx, endF_rt, iS_cst, iS_var, iS_gc, iS_gf, iS_gk, iS_bin, iS_neg, iS_not, iS_and, iS_or, iS_ite, iS_cmp, iS_cmp2, iS_tup, iS_lst, iS_dct, iS_idx, iS_slc, iS_attr, iS_call, iS_make, iS_blt, iS_isi, iS_meth, iS_lc, cnd_t, cnd_f, envO_z, envO_n, envO_c, ofO_some, idxI_l, idxI_k, idx_ri, idxS_d, idx_rs, idx_ti, fldO_i, fld_r, eq_d, ne_d, lt_d, le_d, gt_d, ge_d, is_d, isnot_d, in_d, notin_d, map_some, eqA_int, eqA_bl, len_tup, lenO_l, lenO_k, lenO_d, len_ref, Ab.int_int, Ab.add_int, Ab.sub_int, max_int, min_int, setI_ri, Bool.not_true, Bool.not_false, W_ok, W_bad, WS_fl, W_bind, WS_st, sq_nx, sq_rt, sq_bk, sq_ct, WS_seq, en_nx, en_rt, W_end, tn_nx, tn_ct, tn_bk, tn_rt, atI0, atI1, atI2, atI3, W_ofO, setO_0, setO_1, setO_2, get_set_s, get_set_n, get_push_lt, lt_push, lt_set, ne_push, push_n', set_n', get_push_self, mulR, Ab.mod_int, Int.reduceLT, Int.reduceNeg, Int.reduceEq, lstA_ok, tupA_ok, lcE_ok, wipeA, List.set_cons_zero, List.set_cons_succ, ev_lc, ev_lc2, ev_dc, dcE_ok, ev_sup, src_e, src_r, src_en, srcV_t, srcV_s, srcV_r, srcO_l, rngV_n, list_r, list_t, tuple_r, tuple_t, seqO_l, seqO_k, listO_s, tupO_s, List.length_cons, List.length_nil, Nat.reduceAdd, Nat.reduceLeDiff, ne_eq, not_false_eq_true, Option.some.injEq, exists_eq_left'])
    refine m27 (d := 38) K.sw fun v27 S27 x27 o27 => ?_
    have g6 : S27.get S5.n = some (.lst (vp ++ vt)) := Ext.at (x25.trans (x26.trans x27)) (get_push_self _)
    have lt6 := Hs.lt_of_get g6
    (try simp (config := { maxDischargeDepth := 40 }) only [ok_bind, bad_bind, ok_st, nx_seq, rt_seq, bk_seq, ct_seq, nx_turn, ct_turn, bk_turn, rt_turn, ok_nox, exs_nil, exs_cons, slot_z, slot_s, ev_cst, ev_var, ev_gf, ev_gk, ev_gc, ev_bin, negA_int, ev_neg, tst_bl, ev_not, ev_and, ev_or, ev_ite, ev_cmp, ev_cmp2, rb_some, ch2_t, ch2_f, ev_tup, ev_lst, ev_idx, ev_slc, ev_attr, ev_call, ev_blt, ev_isi, ev_isiE, ev_xmk, ns_xmk, ev_make, ev_meth, evL_nil, evL_cons, evS_nil, evS_star, evS_one, evO_none, evO_some, optA_int, ex_asg, ex_expr, ex_ife, ex_for, ex_whl, ex_ret0, ex_ret, ex_pass, ex_brk, ex_cnt, putS_z, putS_s, asg_nm, asg_tp, asgL_nil, asgL_cons, asg_fld, asg_ix, endF_nx, endF_rt, iS_cst, iS_var, iS_gc, iS_gf, iS_gk, iS_bin, iS_neg, iS_not, iS_and, iS_or, iS_ite, iS_cmp, iS_cmp2, iS_tup, iS_lst, iS_dct, iS_idx, iS_slc, iS_attr, iS_call, iS_make, iS_blt, iS_isi, iS_meth, iS_lc, cnd_t, cnd_f, envO_z, envO_n, envO_c, ofO_some, idxI_l, idxI_k, idx_ri, idxS_d, idx_rs, idx_ti, fldO_i, fld_r, eq_d, ne_d, lt_d, le_d, gt_d, ge_d, is_d, isnot_d, in_d, notin_d, map_some, eqA_int, eqA_bl, len_tup, lenO_l, lenO_k, lenO_d, len_ref, Ab.int_int, Ab.add_int, Ab.sub_int, max_int, min_int, setI_ri, Bool.not_true, Bool.not_false, W_ok, W_bad, WS_fl, W_bind, WS_st, sq_nx, sq_rt, sq_bk, sq_ct, WS_seq, en_nx, en_rt, W_end, tn_nx, tn_ct, tn_bk, tn_rt, atI0, atI1, atI2, atI3, W_ofO, setO_0, setO_1, setO_2, get_set_s, get_set_n, get_push_lt, lt_push, lt_set, ne_push, push_n', set_n', get_push_self, mulR, Ab.mod_int, Int.reduceLT, Int.reduceNeg, Int.reduceEq, lstA_ok, tupA_ok, lcE_ok, wipeA, List.set_cons_zero, List.set_cons_succ, ev_lc, ev_lc2, ev_dc, dcE_ok, ev_sup, src_e, src_r, src_en, srcV_t, srcV_s, srcV_r, srcO_l, rngV_n, list_r, list_t, tuple_r, tuple_t, seqO_l, seqO_k, listO_s, tupO_s, List.length_cons, List.length_nil, Nat.reduceAdd, Nat.reduceLeDiff, ne_eq, not_false_eq_true, Option.some.injEq, exists_eq_left', g6, lt6, l4, l5, cat_rr, catO_l, get_push_eq, Nat.lt_add_right_iff_pos, Nat.add_lt_add_iff_left, Nat.reduceLT, Nat.add_assoc, Nat.reduceAdd, Nat.add_left_cancel_iff, List.cons_append, List.nil_append, List.length_cons, List.length_nil, Nat.reduceLeDiff, Nat.zero_add, Nat.lt_irrefl, Nat.reduceEqDiff, List.length_append])
    refine m28 (d := 38) K.sw fun v28 S28 x28 o28 => ?_
    (try simp (config := { maxDischargeDepth := 40 }) only [ok_bind, bad_bind, ok_st, nx_seq, rt_seq, bk_seq, ct_seq, nx_turn, ct_turn, bk_turn, rt_turn, ok_nox, exs_nil, exs_cons, slot_z, slot_s, ev_cst, ev_var, ev_gf, ev_gk, ev_gc, ev_bin, negA_int, ev_neg, tst_bl, ev_not, ev_and, ev_or, ev_ite, ev_cmp, ev_cmp2, rb_some, ch2_t, ch2_f, ev_tup, ev_lst, ev_idx, ev_slc, ev_attr, ev_call, ev_blt, ev_isi, ev_isiE, ev_xmk, ns_xmk, ev_make, ev_meth, evL_nil, evL_cons, evS_nil, evS_star, evS_one, evO_none, evO_some, optA_int, ex_asg, ex_expr, ex_ife, ex_for, ex_whl, ex_ret0, ex_ret, ex_pass, ex_brk, ex_cnt, putS_z, putS_s, asg_nm, asg_tp, asgL_nil, asgL_cons, asg_fld, asg_ix, endF_nx, endF_rt, iS_cst, iS_var, iS_gc, iS_gf, iS_gk, iS_bin, iS_neg, iS_not, iS_and, iS_or, iS_ite, iS_cmp, iS_cmp2, iS_tup, iS_lst, iS_dct, iS_idx, iS_slc, iS_attr, iS_call, iS_make, iS_blt, iS_isi, iS_meth, iS_lc, cnd_t, cnd_f, envO_z, envO_n, envO_c, ofO_some, idxI_l, idxI_k, idx_ri, idxS_d, idx_rs, idx_ti, fldO_i, fld_r, eq_d, ne_d, lt_d, le_d, gt_d, ge_d, is_d, isnot_d, in_d, notin_d, map_some, eqA_int, eqA_bl, len_tup, lenO_l, lenO_k, lenO_d, len_ref, Ab.int_int, Ab.add_int, Ab.sub_int, max_int, min_int, setI_ri, Bool.not_true, Bool.not_false, W_ok, W_bad, WS_fl, W_bind, WS_st, sq_nx, sq_rt, sq_bk, sq_ct, WS_seq, en_nx, en_rt, W_end, tn_nx, tn_ct, tn_bk, tn_rt, atI0, atI1, atI2, atI3, W_ofO, setO_0, setO_1, setO_2, get_set_s, get_set_n, get_push_lt, lt_push, lt_set, ne_push, push_n', set_n', get_push_self, mulR, Ab.mod_int, Int.reduceLT, Int.reduceNeg, Int.reduceEq, lstA_ok, tupA_ok, lcE_ok, wipeA, List.set_cons_zero, List.set_cons_succ, ev_lc, ev_lc2, ev_dc, dcE_ok, ev_sup, src_e, src_r, src_en, srcV_t, srcV_s, srcV_r, srcO_l, rngV_n, list_r, list_t, tuple_r, tuple_t, seqO_l, seqO_k, listO_s, tupO_s, List.length_cons, List.length_nil, Nat.reduceAdd, Nat.reduceLeDiff, ne_eq, not_false_eq_true, Option.some.injEq, exists_eq_left'])
    refine m29 (d := 38) K.sw fun v29 S29 x29 o29 => ?_
    (try simp (config := { maxDischargeDepth := 40 }) only [ok_bind, bad_bind, ok_st, nx_seq, rt_seq, bk_seq, ct_seq, nx_turn, ct_turn, bk_turn, rt_turn, ok_nox, exs_nil, exs_cons, slot_z, slot_s, ev_cst, ev_var, ev_gf, ev_gk, ev_gc, ev_bin, negA_int, ev_neg, tst_bl, ev_not, ev_and, ev_or, ev_ite, ev_cmp, ev_cmp2, rb_some, ch2_t, ch2_f, ev_tup, ev_lst, ev_idx, ev_slc, ev_attr, ev_call, ev_blt, ev_isi, ev_isiE, ev_xmk, ns_xmk, ev_make, ev_meth, evL_nil, evL_cons, evS_nil, evS_star, evS_one, evO_none, evO_some, optA_int, ex_asg, ex_expr, ex_ife, ex_for, ex_whl, ex_ret0, ex_ret, ex_pass, ex_brk, ex_cnt, putS_z, putS_s, asg_nm, asg_tp, asgL_nil, asgL_cons, asg_fld, asg_ix, endF_nx, endF_rt, iS_cst, iS_var, iS_gc, iS_gf, iS_gk, iS_bin, iS_neg, iS_not, iS_and, iS_or, iS_ite, iS_cmp, iS_cmp2, iS_tup, iS_lst, iS_dct, iS_idx, iS_slc, iS_attr, iS_call, iS_make, iS_blt, iS_isi, iS_meth, iS_lc, cnd_t, cnd_f, envO_z, envO_n, envO_c, ofO_some, idxI_l, idxI_k, idx_ri, idxS_d, idx_rs, idx_ti, fldO_i, fld_r, eq_d, ne_d, lt_d, le_d, gt_d, ge_d, is_d, isnot_d, in_d, notin_d, map_some, eqA_int, eqA_bl, len_tup, lenO_l, lenO_k, lenO_d, len_ref, Ab.int_int, Ab.add_int, Ab.sub_int, max_int, min_int, setI_ri, Bool.not_true, Bool.not_false, W_ok, W_bad, WS_fl, W_bind, WS_st, sq_nx, sq_rt, sq_bk, sq_ct, WS_seq, en_nx, en_rt, W_end, tn_nx, tn_ct, tn_bk, tn_rt, atI0, atI1, atI2, atI3, W_ofO, setO_0, setO_1, setO_2, get_set_s, get_set_n, get_push_lt, lt_push, lt_set, ne_push, push_n', set_n', get_push_self, mulR, Ab.mod_int, Int.reduceLT, Int.reduceNeg, Int.reduceEq, lstA_ok, tupA_ok, lcE_ok, wipeA, List.set_cons_zero, List.set_cons_succ, ev_lc, ev_lc2, ev_dc, dcE_ok, ev_sup, src_e, src_r, src_en, srcV_t, srcV_s, srcV_r, srcO_l, rngV_n, list_r, list_t, tuple_r, tuple_t, seqO_l, seqO_k, listO_s, tupO_s, List.length_cons, List.length_nil, Nat.reduceAdd, Nat.reduceLeDiff, ne_eq, not_false_eq_true, Option.some.injEq, exists_eq_left'])
    refine m30 (d := 38) K.sw fun v30 S30 x30 o30 => ?_
    (try simp (config := { maxDischargeDepth := 40 }) only [ok_bind, bad_bind, ok_st, nx_seq, rt_seq, bk_seq, ct_seq, nx_turn, ct_turn, bk_turn, rt_turn, ok_nox, exs_nil, exs_cons, slot_z, slot_s, ev_cst, ev_var, ev_gf, ev_gk, ev_gc, ev_bin, negA_int, ev_neg, tst_bl, ev_not, ev_and, ev_or, ev_ite, ev_cmp, ev_cmp2, rb_some, ch2_t, ch2_f, ev_tup, ev_lst, ev_idx, ev_slc, ev_attr, ev_call, ev_blt, ev_isi, ev_isiE, ev_xmk, ns_xmk, ev_make, ev_meth, evL_nil, evL_cons, evS_nil, evS_star, evS_one, evO_none, evO_some, optA_int, ex_asg, ex_expr, ex_ife, ex_for, ex_whl, ex_ret0, ex_ret, ex_pass, ex_brk, ex_cnt, putS_z, putS_s, asg_nm, asg_tp, asgL_nil, asgL_cons, asg_fld, asg_ix, endF_nx, endF_rt, iS_cst, iS_var, iS_gc, iS_gf, iS_gk, iS_bin, iS_neg, iS_not, iS_and, iS_or, iS_ite, iS_cmp, iS_cmp2, iS_tup, iS_lst, iS_dct, iS_idx, iS_slc, iS_attr, iS_call, iS_make, iS_blt, iS_isi, iS_meth, iS_lc, cnd_t, cnd_f, envO_z, envO_n, envO_c, ofO_some, idxI_l, idxI_k, idx_ri, idxS_d, idx_rs, idx_ti, fldO_i, fld_r, eq_d, ne_d, lt_d, le_d, gt_d, ge_d, is_d, isnot_d, in_d, notin_d, map_some, eqA_int, eqA_bl, len_tup, lenO_l, lenO_k, lenO_d, len_ref, Ab.int_int, Ab.add_int, Ab.sub_int, max_int, min_int, setI_ri, Bool.not_true, Bool.not_false, W_ok, W_bad, WS_fl, W_bind, WS_st, sq_nx, sq_rt, sq_bk, sq_ct, WS_seq, en_nx, en_rt, W_end, tn_nx, tn_ct, tn_bk, tn_rt, atI0, atI1, atI2, atI3, W_ofO, setO_0, setO_1, setO_2, get_set_s, get_set_n, get_push_lt, lt_push, lt_set, ne_push, push_n', set_n', get_push_self, mulR, Ab.mod_int, Int.reduceLT, Int.reduceNeg, Int.reduceEq, lstA_ok, tupA_ok, lcE_ok, wipeA, List.set_cons_zero, List.set_cons_succ, ev_lc, ev_lc2, ev_dc, dcE_ok, ev_sup, src_e, src_r, src_en, srcV_t, srcV_s, srcV_r, srcO_l, rngV_n, list_r, list_t, tuple_r, tuple_t, seqO_l, seqO_k, listO_s, tupO_s, List.length_cons, List.length_nil, Nat.reduceAdd, Nat.reduceLeDiff, ne_eq, not_false_eq_true, Option.some.injEq, exists_eq_left'])
    refine m31 (d := 38) K.sn fun v31 S31 x31 o31 => ?_
    have g7 : S31.get (S27.n + 1) = some (.lst (vp ++ vt ++ [v25, v26, v27])) := Ext.at (x28.trans (x29.trans (x30.trans x31))) (get_push_eq rfl)
    have lt7 := Hs.lt_of_get g7
    rw [get_push_lt lt7, g7, catO_l (by rw [List.length_append, List.length_append, l4, l5, List.length_cons, List.length_cons, List.length_cons, List.length_cons, List.length_cons, List.length_cons, List.length_cons, List.length_nil]; omega)]
    have y27 : Ext S27 ((S27.push (AO.lst [v25, v26, v27])).push (AO.lst (vp ++ vt ++ [v25, v26, v27]))) := ext_push (ext_push Ab.Fr.refl)
    have y31 : Ext S31 ((S31.push (AO.lst [v28, v29, v30, v31])).push (AO.lst (vp ++ vt ++ [v25, v26, v27] ++ [v28, v29, v30, v31]))) := ext_push (ext_push Ab.Fr.refl)
    have gE : ((S31.push (AO.lst [v28, v29, v30, v31])).push (AO.lst (vp ++ vt ++ [v25, v26, v27] ++ [v28, v29, v30, v31]))).get (S31.push (AO.lst [v28, v29, v30, v31])).n = some (.lst (vp ++ vt ++ [v25, v26, v27] ++ [v28, v29, v30, v31])) := get_push_self _
    have lE : (vp ++ vt ++ [v25, v26, v27] ++ [v28, v29, v30, v31]).length = 30 := by rw [List.length_append, List.length_append, List.length_append, l4, l5]; rfl
    have w30 := x31.trans y31
    have w29 := x30.trans w30
    have w28 := x29.trans w29
    have w27 := y27.trans (x28.trans w28)
    have w26 := x27.trans w27
    have w25 := x26.trans w26
    have w5 : Ext S5 _ := (Ab.Fr.push (M := fun _ => False) (o := AO.lst (vp ++ vt))).trans (x25.trans w25)
    have w3 := (x4.trans x5).trans w5
    have oE := Xs.append (Xs.append (Xs.append (o4.ext (x5.trans w5)) (o5.ext w5)) (qs := restL w xs n) (ws := [v25, v26, v27]) ⟨o25.ext w25, o26.ext w26, o27.ext w27, trivial⟩) (qs := lastL w n) (ws := [v28, v29, v30, v31]) ⟨o28.ext w28, o29.ext w29, o30.ext w30, o31.ext y31, trivial⟩
    generalize (S31.push (AO.lst [v28, v29, v30, v31])).push (AO.lst (vp ++ vt ++ [v25, v26, v27] ++ [v28, v29, v30, v31])) = SE at gE w3 oE ⊢
    generalize (S31.push (AO.lst [v28, v29, v30, v31])).n = rE at gE ⊢
    generalize vp ++ vt ++ [v25, v26, v27] ++ [v28, v29, v30, v31] = vE at gE lE oE ⊢
    have e30 : ∀ S, rngV (.int 30) S = .ok (.rng 0 30) S := fun S => rngV_n (n := 30) (by omega)
    have lI : ((vE.length : Nat) : Int) = 30 := by rw [lE]; rfl
    (try simp (config := { maxDischargeDepth := 40 }) only [ok_bind, bad_bind, ok_st, nx_seq, rt_seq, bk_seq, ct_seq, nx_turn, ct_turn, bk_turn, rt_turn, ok_nox, exs_nil, exs_cons, slot_z, slot_s, ev_cst, ev_var, ev_gf, ev_gk, ev_gc, ev_bin, negA_int, ev_neg, tst_bl, ev_not, ev_and, ev_or, ev_ite, ev_cmp, ev_cmp2, rb_some, ch2_t, ch2_f, ev_tup, ev_lst, ev_idx, ev_slc, ev_attr, ev_call, ev_blt, ev_isi, ev_isiE, ev_xmk, ns_xmk, ev_make, ev_meth, evL_nil, evL_cons, evS_nil, evS_star, evS_one, evO_none, evO_some, optA_int, ex_asg, ex_expr, ex_ife, ex_for, ex_whl, ex_ret0, ex_ret, ex_pass, ex_brk, ex_cnt, putS_z, putS_s, asg_nm, asg_tp, asgL_nil, asgL_cons, asg_fld, asg_ix, endF_nx, endF_rt, iS_cst, iS_var, iS_gc, iS_gf, iS_gk, iS_bin, iS_neg, iS_not, iS_and, iS_or, iS_ite, iS_cmp, iS_cmp2, iS_tup, iS_lst, iS_dct, iS_idx, iS_slc, iS_attr, iS_call, iS_make, iS_blt, iS_isi, iS_meth, iS_lc, cnd_t, cnd_f, envO_z, envO_n, envO_c, ofO_some, idxI_l, idxI_k, idx_ri, idxS_d, idx_rs, idx_ti, fldO_i, fld_r, eq_d, ne_d, lt_d, le_d, gt_d, ge_d, is_d, isnot_d, in_d, notin_d, map_some, eqA_int, eqA_bl, len_tup, lenO_l, lenO_k, lenO_d, len_ref, Ab.int_int, Ab.add_int, Ab.sub_int, max_int, min_int, setI_ri, Bool.not_true, Bool.not_false, W_ok, W_bad, WS_fl, W_bind, WS_st, sq_nx, sq_rt, sq_bk, sq_ct, WS_seq, en_nx, en_rt, W_end, tn_nx, tn_ct, tn_bk, tn_rt, atI0, atI1, atI2, atI3, W_ofO, setO_0, setO_1, setO_2, get_set_s, get_set_n, get_push_lt, lt_push, lt_set, ne_push, push_n', set_n', get_push_self, mulR, Ab.mod_int, Int.reduceLT, Int.reduceNeg, Int.reduceEq, lstA_ok, tupA_ok, lcE_ok, wipeA, List.set_cons_zero, List.set_cons_succ, ev_lc, ev_lc2, ev_dc, dcE_ok, ev_sup, src_e, src_r, src_en, srcV_t, srcV_s, srcV_r, srcO_l, rngV_n, list_r, list_t, tuple_r, tuple_t, seqO_l, seqO_k, listO_s, tupO_s, List.length_cons, List.length_nil, Nat.reduceAdd, Nat.reduceLeDiff, ne_eq, not_false_eq_true, Option.some.injEq, exists_eq_left', gE, lI, e30])
    refine wfor (N := 30) (I := fun j ρ S' => ∃ z7, ρ = [some (.ref 0), some (.ref r), some (.int (i : Int)), some w, some (.int n), some s, some (.ref rE), z7, none] ∧ Ext SE S') ⟨_, rfl, Ab.Fr.refl⟩ (by decide) ?_ (fun ρ S _ => at_rngE) ?_
    · rintro j ρ S6 hj ⟨z7, rfl, x6⟩
      refine ⟨_, at_rng0 hj, ?_⟩
      obtain ⟨fs, hfs⟩ := allL_get (w := w) (xs := xs) (n := n) hj
      obtain ⟨v, ev, ov⟩ := oE.get hfs
      have av : atI vE (j : Int) = some v := atI_nat ev
      have g6 := Ext.at x6 gE
      obtain ⟨_, hxb, hk1, hk2⟩ := k_all j hj
      obtain ⟨he1, he2⟩ := shE_all j hj
      (try simp (config := { maxDischargeDepth := 40 }) only [ok_bind, bad_bind, ok_st, nx_seq, rt_seq, bk_seq, ct_seq, nx_turn, ct_turn, bk_turn, rt_turn, ok_nox, exs_nil, exs_cons, slot_z, slot_s, ev_cst, ev_var, ev_gf, ev_gk, ev_gc, ev_bin, negA_int, ev_neg, tst_bl, ev_not, ev_and, ev_or, ev_ite, ev_cmp, ev_cmp2, rb_some, ch2_t, ch2_f, ev_tup, ev_lst, ev_idx, ev_slc, ev_attr, ev_call, ev_blt, ev_isi, ev_isiE, ev_xmk, ns_xmk, ev_make, ev_meth, evL_nil, evL_cons, evS_nil, evS_star, evS_one, evO_none, evO_some, optA_int, ex_asg, ex_expr, ex_ife, ex_for, ex_whl, ex_ret0, ex_ret, ex_pass, ex_brk, ex_cnt, putS_z, putS_s, asg_nm, asg_tp, asgL_nil, asgL_cons, asg_fld, asg_ix, endF_nx, endF_rt, iS_cst, iS_var, iS_gc, iS_gf, iS_gk, iS_bin, iS_neg, iS_not, iS_and, iS_or, iS_ite, iS_cmp, iS_cmp2, iS_tup, iS_lst, iS_dct, iS_idx, iS_slc, iS_attr, iS_call, iS_make, iS_blt, iS_isi, iS_meth, iS_lc, cnd_t, cnd_f, envO_z, envO_n, envO_c, ofO_some, idxI_l, idxI_k, idx_ri, idxS_d, idx_rs, idx_ti, fldO_i, fld_r, eq_d, ne_d, lt_d, le_d, gt_d, ge_d, is_d, isnot_d, in_d, notin_d, map_some, eqA_int, eqA_bl, len_tup, lenO_l, lenO_k, lenO_d, len_ref, Ab.int_int, Ab.add_int, Ab.sub_int, max_int, min_int, setI_ri, Bool.not_true, Bool.not_false, W_ok, W_bad, WS_fl, W_bind, WS_st, sq_nx, sq_rt, sq_bk, sq_ct, WS_seq, en_nx, en_rt, W_end, tn_nx, tn_ct, tn_bk, tn_rt, atI0, atI1, atI2, atI3, W_ofO, setO_0, setO_1, setO_2, get_set_s, get_set_n, get_push_lt, lt_push, lt_set, ne_push, push_n', set_n', get_push_self, mulR, Ab.mod_int, Int.reduceLT, Int.reduceNeg, Int.reduceEq, lstA_ok, tupA_ok, lcE_ok, wipeA, List.set_cons_zero, List.set_cons_succ, ev_lc, ev_lc2, ev_dc, dcE_ok, ev_sup, src_e, src_r, src_en, srcV_t, srcV_s, srcV_r, srcO_l, rngV_n, list_r, list_t, tuple_r, tuple_t, seqO_l, seqO_k, listO_s, tupO_s, List.length_cons, List.length_nil, Nat.reduceAdd, Nat.reduceLeDiff, ne_eq, not_false_eq_true, Option.some.injEq, exists_eq_left', g6, av])
      refine kinds_ok (d := 38) (ov.ext x6) (cl_get hj) hxb fun rk S7 x7 gk => ?_
      have ek : kl (clI j) = (((List.range 30).map fun m => (((m : Nat) : Int) == ((j : Nat) : Int))).map AV.bl) := by
        rw [← hk1]
        unfold kl
        rw [List.map_map]; rfl
      rw [ek] at gk
      have g7 := Ext.at x7 g6
      (try simp (config := { maxDischargeDepth := 40 }) only [ok_bind, bad_bind, ok_st, nx_seq, rt_seq, bk_seq, ct_seq, nx_turn, ct_turn, bk_turn, rt_turn, ok_nox, exs_nil, exs_cons, slot_z, slot_s, ev_cst, ev_var, ev_gf, ev_gk, ev_gc, ev_bin, negA_int, ev_neg, tst_bl, ev_not, ev_and, ev_or, ev_ite, ev_cmp, ev_cmp2, rb_some, ch2_t, ch2_f, ev_tup, ev_lst, ev_idx, ev_slc, ev_attr, ev_call, ev_blt, ev_isi, ev_isiE, ev_xmk, ns_xmk, ev_make, ev_meth, evL_nil, evL_cons, evS_nil, evS_star, evS_one, evO_none, evO_some, optA_int, ex_asg, ex_expr, ex_ife, ex_for, ex_whl, ex_ret0, ex_ret, ex_pass, ex_brk, ex_cnt, putS_z, putS_s, asg_nm, asg_tp, asgL_nil, asgL_cons, asg_fld, asg_ix, endF_nx, endF_rt, iS_cst, iS_var, iS_gc, iS_gf, iS_gk, iS_bin, iS_neg, iS_not, iS_and, iS_or, iS_ite, iS_cmp, iS_cmp2, iS_tup, iS_lst, iS_dct, iS_idx, iS_slc, iS_attr, iS_call, iS_make, iS_blt, iS_isi, iS_meth, iS_lc, cnd_t, cnd_f, envO_z, envO_n, envO_c, ofO_some, idxI_l, idxI_k, idx_ri, idxS_d, idx_rs, idx_ti, fldO_i, fld_r, eq_d, ne_d, lt_d, le_d, gt_d, ge_d, is_d, isnot_d, in_d, notin_d, map_some, eqA_int, eqA_bl, len_tup, lenO_l, lenO_k, lenO_d, len_ref, Ab.int_int, Ab.add_int, Ab.sub_int, max_int, min_int, setI_ri, Bool.not_true, Bool.not_false, W_ok, W_bad, WS_fl, W_bind, WS_st, sq_nx, sq_rt, sq_bk, sq_ct, WS_seq, en_nx, en_rt, W_end, tn_nx, tn_ct, tn_bk, tn_rt, atI0, atI1, atI2, atI3, W_ofO, setO_0, setO_1, setO_2, get_set_s, get_set_n, get_push_lt, lt_push, lt_set, ne_push, push_n', set_n', get_push_self, mulR, Ab.mod_int, Int.reduceLT, Int.reduceNeg, Int.reduceEq, lstA_ok, tupA_ok, lcE_ok, wipeA, List.set_cons_zero, List.set_cons_succ, ev_lc, ev_lc2, ev_dc, dcE_ok, ev_sup, src_e, src_r, src_en, srcV_t, srcV_s, srcV_r, srcO_l, rngV_n, list_r, list_t, tuple_r, tuple_t, seqO_l, seqO_k, listO_s, tupO_s, List.length_cons, List.length_nil, Nat.reduceAdd, Nat.reduceLeDiff, ne_eq, not_false_eq_true, Option.some.injEq, exists_eq_left', g7, lI, e30])
      refine wlc (N := 30) (fun m acc S' => acc = (((List.range m).map fun m => (((m : Nat) : Int) == ((j : Nat) : Int))).map AV.bl) ∧ S' = S7) ⟨rfl, rfl⟩ (by decide) (fun m acc S' h => by rw [h.1, List.length_map, List.length_map, List.length_range]; exact Nat.le_refl _) ?_ (fun acc S' _ => at_rngE) ?_
      · rintro m acc S' hm ⟨rfl, rfl⟩
        refine ⟨_, at_rng0 hm, _, rfl, ?_⟩
        (try simp (config := { maxDischargeDepth := 40 }) only [ok_bind, bad_bind, ok_st, nx_seq, rt_seq, bk_seq, ct_seq, nx_turn, ct_turn, bk_turn, rt_turn, ok_nox, exs_nil, exs_cons, slot_z, slot_s, ev_cst, ev_var, ev_gf, ev_gk, ev_gc, ev_bin, negA_int, ev_neg, tst_bl, ev_not, ev_and, ev_or, ev_ite, ev_cmp, ev_cmp2, rb_some, ch2_t, ch2_f, ev_tup, ev_lst, ev_idx, ev_slc, ev_attr, ev_call, ev_blt, ev_isi, ev_isiE, ev_xmk, ns_xmk, ev_make, ev_meth, evL_nil, evL_cons, evS_nil, evS_star, evS_one, evO_none, evO_some, optA_int, ex_asg, ex_expr, ex_ife, ex_for, ex_whl, ex_ret0, ex_ret, ex_pass, ex_brk, ex_cnt, putS_z, putS_s, asg_nm, asg_tp, asgL_nil, asgL_cons, asg_fld, asg_ix, endF_nx, endF_rt, iS_cst, iS_var, iS_gc, iS_gf, iS_gk, iS_bin, iS_neg, iS_not, iS_and, iS_or, iS_ite, iS_cmp, iS_cmp2, iS_tup, iS_lst, iS_dct, iS_idx, iS_slc, iS_attr, iS_call, iS_make, iS_blt, iS_isi, iS_meth, iS_lc, cnd_t, cnd_f, envO_z, envO_n, envO_c, ofO_some, idxI_l, idxI_k, idx_ri, idxS_d, idx_rs, idx_ti, fldO_i, fld_r, eq_d, ne_d, lt_d, le_d, gt_d, ge_d, is_d, isnot_d, in_d, notin_d, map_some, eqA_int, eqA_bl, len_tup, lenO_l, lenO_k, lenO_d, len_ref, Ab.int_int, Ab.add_int, Ab.sub_int, max_int, min_int, setI_ri, Bool.not_true, Bool.not_false, W_ok, W_bad, WS_fl, W_bind, WS_st, sq_nx, sq_rt, sq_bk, sq_ct, WS_seq, en_nx, en_rt, W_end, tn_nx, tn_ct, tn_bk, tn_rt, atI0, atI1, atI2, atI3, W_ofO, setO_0, setO_1, setO_2, get_set_s, get_set_n, get_push_lt, lt_push, lt_set, ne_push, push_n', set_n', get_push_self, mulR, Ab.mod_int, Int.reduceLT, Int.reduceNeg, Int.reduceEq, lstA_ok, tupA_ok, lcE_ok, wipeA, List.set_cons_zero, List.set_cons_succ, ev_lc, ev_lc2, ev_dc, dcE_ok, ev_sup, src_e, src_r, src_en, srcV_t, srcV_s, srcV_r, srcO_l, rngV_n, list_r, list_t, tuple_r, tuple_t, seqO_l, seqO_k, listO_s, tupO_s, List.length_cons, List.length_nil, Nat.reduceAdd, Nat.reduceLeDiff, ne_eq, not_false_eq_true, Option.some.injEq, exists_eq_left'])
        refine ⟨?_, trivial⟩
        rw [List.range_succ, List.map_append, List.map_append]; rfl
      · rintro acc S' ⟨rfl, rfl⟩
        have gk' := get_push_lt (o := AO.lst (((List.range 30).map fun m => (((m : Nat) : Int) == ((j : Nat) : Int))).map AV.bl)) (Hs.lt_of_get gk)
        rw [gk] at gk'
        rw [eqA_bls he1 gk' (get_push_self _)]
        have x8 : Ext SE (S'.push (AO.lst (((List.range 30).map fun m => (((m : Nat) : Int) == ((j : Nat) : Int))).map AV.bl))) := (x6.trans x7).trans Ab.Fr.push
        generalize S'.push (AO.lst (((List.range 30).map fun m => (((m : Nat) : Int) == ((j : Nat) : Int))).map AV.bl)) = S8 at x8 ⊢
        have g8 := Ext.at x8 gE
        (try simp (config := { maxDischargeDepth := 40 }) only [ok_bind, bad_bind, ok_st, nx_seq, rt_seq, bk_seq, ct_seq, nx_turn, ct_turn, bk_turn, rt_turn, ok_nox, exs_nil, exs_cons, slot_z, slot_s, ev_cst, ev_var, ev_gf, ev_gk, ev_gc, ev_bin, negA_int, ev_neg, tst_bl, ev_not, ev_and, ev_or, ev_ite, ev_cmp, ev_cmp2, rb_some, ch2_t, ch2_f, ev_tup, ev_lst, ev_idx, ev_slc, ev_attr, ev_call, ev_blt, ev_isi, ev_isiE, ev_xmk, ns_xmk, ev_make, ev_meth, evL_nil, evL_cons, evS_nil, evS_star, evS_one, evO_none, evO_some, optA_int, ex_asg, ex_expr, ex_ife, ex_for, ex_whl, ex_ret0, ex_ret, ex_pass, ex_brk, ex_cnt, putS_z, putS_s, asg_nm, asg_tp, asgL_nil, asgL_cons, asg_fld, asg_ix, endF_nx, endF_rt, iS_cst, iS_var, iS_gc, iS_gf, iS_gk, iS_bin, iS_neg, iS_not, iS_and, iS_or, iS_ite, iS_cmp, iS_cmp2, iS_tup, iS_lst, iS_dct, iS_idx, iS_slc, iS_attr, iS_call, iS_make, iS_blt, iS_isi, iS_meth, iS_lc, cnd_t, cnd_f, envO_z, envO_n, envO_c, ofO_some, idxI_l, idxI_k, idx_ri, idxS_d, idx_rs, idx_ti, fldO_i, fld_r, eq_d, ne_d, lt_d, le_d, gt_d, ge_d, is_d, isnot_d, in_d, notin_d, map_some, eqA_int, eqA_bl, len_tup, lenO_l, lenO_k, lenO_d, len_ref, Ab.int_int, Ab.add_int, Ab.sub_int, max_int, min_int, setI_ri, Bool.not_true, Bool.not_false, W_ok, W_bad, WS_fl, W_bind, WS_st, sq_nx, sq_rt, sq_bk, sq_ct, WS_seq, en_nx, en_rt, W_end, tn_nx, tn_ct, tn_bk, tn_rt, atI0, atI1, atI2, atI3, W_ofO, setO_0, setO_1, setO_2, get_set_s, get_set_n, get_push_lt, lt_push, lt_set, ne_push, push_n', set_n', get_push_self, mulR, Ab.mod_int, Int.reduceLT, Int.reduceNeg, Int.reduceEq, lstA_ok, tupA_ok, lcE_ok, wipeA, List.set_cons_zero, List.set_cons_succ, ev_lc, ev_lc2, ev_dc, dcE_ok, ev_sup, src_e, src_r, src_en, srcV_t, srcV_s, srcV_r, srcO_l, rngV_n, list_r, list_t, tuple_r, tuple_t, seqO_l, seqO_k, listO_s, tupO_s, List.length_cons, List.length_nil, Nat.reduceAdd, Nat.reduceLeDiff, ne_eq, not_false_eq_true, Option.some.injEq, exists_eq_left', g8, av])
        refine bases_ok (d := 38) (ov.ext x8) (cl_get hj) hxb fun rb S9 x9 gb => ?_
        have eb : bl4 (clI j) = [decide (((j : Nat) : Int) < 25), decide (((j : Nat) : Int) < 25), decide (25 ≤ ((j : Nat) : Int)), decide (25 ≤ ((j : Nat) : Int))].map AV.bl := by
          rw [← hk2]; rfl
        rw [eb] at gb
        have gb' := get_push_lt (o := AO.lst ([decide (((j : Nat) : Int) < 25), decide (((j : Nat) : Int) < 25), decide (25 ≤ ((j : Nat) : Int)), decide (25 ≤ ((j : Nat) : Int))].map AV.bl)) (Hs.lt_of_get gb)
        rw [gb] at gb'
        have ee := eqA_bls he2 gb' (get_push_self _)
        simp only [List.map_cons, List.map_nil] at ee
        (try simp (config := { maxDischargeDepth := 40 }) only [ok_bind, bad_bind, ok_st, nx_seq, rt_seq, bk_seq, ct_seq, nx_turn, ct_turn, bk_turn, rt_turn, ok_nox, exs_nil, exs_cons, slot_z, slot_s, ev_cst, ev_var, ev_gf, ev_gk, ev_gc, ev_bin, negA_int, ev_neg, tst_bl, ev_not, ev_and, ev_or, ev_ite, ev_cmp, ev_cmp2, rb_some, ch2_t, ch2_f, ev_tup, ev_lst, ev_idx, ev_slc, ev_attr, ev_call, ev_blt, ev_isi, ev_isiE, ev_xmk, ns_xmk, ev_make, ev_meth, evL_nil, evL_cons, evS_nil, evS_star, evS_one, evO_none, evO_some, optA_int, ex_asg, ex_expr, ex_ife, ex_for, ex_whl, ex_ret0, ex_ret, ex_pass, ex_brk, ex_cnt, putS_z, putS_s, asg_nm, asg_tp, asgL_nil, asgL_cons, asg_fld, asg_ix, endF_nx, endF_rt, iS_cst, iS_var, iS_gc, iS_gf, iS_gk, iS_bin, iS_neg, iS_not, iS_and, iS_or, iS_ite, iS_cmp, iS_cmp2, iS_tup, iS_lst, iS_dct, iS_idx, iS_slc, iS_attr, iS_call, iS_make, iS_blt, iS_isi, iS_meth, iS_lc, cnd_t, cnd_f, envO_z, envO_n, envO_c, ofO_some, idxI_l, idxI_k, idx_ri, idxS_d, idx_rs, idx_ti, fldO_i, fld_r, eq_d, ne_d, lt_d, le_d, gt_d, ge_d, is_d, isnot_d, in_d, notin_d, map_some, eqA_int, eqA_bl, len_tup, lenO_l, lenO_k, lenO_d, len_ref, Ab.int_int, Ab.add_int, Ab.sub_int, max_int, min_int, setI_ri, Bool.not_true, Bool.not_false, W_ok, W_bad, WS_fl, W_bind, WS_st, sq_nx, sq_rt, sq_bk, sq_ct, WS_seq, en_nx, en_rt, W_end, tn_nx, tn_ct, tn_bk, tn_rt, atI0, atI1, atI2, atI3, W_ofO, setO_0, setO_1, setO_2, get_set_s, get_set_n, get_push_lt, lt_push, lt_set, ne_push, push_n', set_n', get_push_self, mulR, Ab.mod_int, Int.reduceLT, Int.reduceNeg, Int.reduceEq, lstA_ok, tupA_ok, lcE_ok, wipeA, List.set_cons_zero, List.set_cons_succ, ev_lc, ev_lc2, ev_dc, dcE_ok, ev_sup, src_e, src_r, src_en, srcV_t, srcV_s, srcV_r, srcO_l, rngV_n, list_r, list_t, tuple_r, tuple_t, seqO_l, seqO_k, listO_s, tupO_s, List.length_cons, List.length_nil, Nat.reduceAdd, Nat.reduceLeDiff, ne_eq, not_false_eq_true, Option.some.injEq, exists_eq_left', ee])
        exact ⟨_, rfl, (x8.trans x9).trans Ab.Fr.push⟩
    · rintro ρ S6 ⟨z7, rfl, x6⟩
      have g6 := Ext.at x6 gE
      (try simp (config := { maxDischargeDepth := 40 }) only [ok_bind, bad_bind, ok_st, nx_seq, rt_seq, bk_seq, ct_seq, nx_turn, ct_turn, bk_turn, rt_turn, ok_nox, exs_nil, exs_cons, slot_z, slot_s, ev_cst, ev_var, ev_gf, ev_gk, ev_gc, ev_bin, negA_int, ev_neg, tst_bl, ev_not, ev_and, ev_or, ev_ite, ev_cmp, ev_cmp2, rb_some, ch2_t, ch2_f, ev_tup, ev_lst, ev_idx, ev_slc, ev_attr, ev_call, ev_blt, ev_isi, ev_isiE, ev_xmk, ns_xmk, ev_make, ev_meth, evL_nil, evL_cons, evS_nil, evS_star, evS_one, evO_none, evO_some, optA_int, ex_asg, ex_expr, ex_ife, ex_for, ex_whl, ex_ret0, ex_ret, ex_pass, ex_brk, ex_cnt, putS_z, putS_s, asg_nm, asg_tp, asgL_nil, asgL_cons, asg_fld, asg_ix, endF_nx, endF_rt, iS_cst, iS_var, iS_gc, iS_gf, iS_gk, iS_bin, iS_neg, iS_not, iS_and, iS_or, iS_ite, iS_cmp, iS_cmp2, iS_tup, iS_lst, iS_dct, iS_idx, iS_slc, iS_attr, iS_call, iS_make, iS_blt, iS_isi, iS_meth, iS_lc, cnd_t, cnd_f, envO_z, envO_n, envO_c, ofO_some, idxI_l, idxI_k, idx_ri, idxS_d, idx_rs, idx_ti, fldO_i, fld_r, eq_d, ne_d, lt_d, le_d, gt_d, ge_d, is_d, isnot_d, in_d, notin_d, map_some, eqA_int, eqA_bl, len_tup, lenO_l, lenO_k, lenO_d, len_ref, Ab.int_int, Ab.add_int, Ab.sub_int, max_int, min_int, setI_ri, Bool.not_true, Bool.not_false, W_ok, W_bad, WS_fl, W_bind, WS_st, sq_nx, sq_rt, sq_bk, sq_ct, WS_seq, en_nx, en_rt, W_end, tn_nx, tn_ct, tn_bk, tn_rt, atI0, atI1, atI2, atI3, W_ofO, setO_0, setO_1, setO_2, get_set_s, get_set_n, get_push_lt, lt_push, lt_set, ne_push, push_n', set_n', get_push_self, mulR, Ab.mod_int, Int.reduceLT, Int.reduceNeg, Int.reduceEq, lstA_ok, tupA_ok, lcE_ok, wipeA, List.set_cons_zero, List.set_cons_succ, ev_lc, ev_lc2, ev_dc, dcE_ok, ev_sup, src_e, src_r, src_en, srcV_t, srcV_s, srcV_r, srcO_l, rngV_n, list_r, list_t, tuple_r, tuple_t, seqO_l, seqO_k, listO_s, tupO_s, List.length_cons, List.length_nil, Nat.reduceAdd, Nat.reduceLeDiff, ne_eq, not_false_eq_true, Option.some.injEq, exists_eq_left', g6, lI])
      rw [show (!((30 : Int) == 30)) = false from rfl, cnd_f, W_bind]
      refine kept_ok (d := 36) K (hs.ext (w3.trans x6)) fun S10 x10 => ?_
      (try simp (config := { maxDischargeDepth := 40 }) only [ok_bind, bad_bind, ok_st, nx_seq, rt_seq, bk_seq, ct_seq, nx_turn, ct_turn, bk_turn, rt_turn, ok_nox, exs_nil, exs_cons, slot_z, slot_s, ev_cst, ev_var, ev_gf, ev_gk, ev_gc, ev_bin, negA_int, ev_neg, tst_bl, ev_not, ev_and, ev_or, ev_ite, ev_cmp, ev_cmp2, rb_some, ch2_t, ch2_f, ev_tup, ev_lst, ev_idx, ev_slc, ev_attr, ev_call, ev_blt, ev_isi, ev_isiE, ev_xmk, ns_xmk, ev_make, ev_meth, evL_nil, evL_cons, evS_nil, evS_star, evS_one, evO_none, evO_some, optA_int, ex_asg, ex_expr, ex_ife, ex_for, ex_whl, ex_ret0, ex_ret, ex_pass, ex_brk, ex_cnt, putS_z, putS_s, asg_nm, asg_tp, asgL_nil, asgL_cons, asg_fld, asg_ix, endF_nx, endF_rt, iS_cst, iS_var, iS_gc, iS_gf, iS_gk, iS_bin, iS_neg, iS_not, iS_and, iS_or, iS_ite, iS_cmp, iS_cmp2, iS_tup, iS_lst, iS_dct, iS_idx, iS_slc, iS_attr, iS_call, iS_make, iS_blt, iS_isi, iS_meth, iS_lc, cnd_t, cnd_f, envO_z, envO_n, envO_c, ofO_some, idxI_l, idxI_k, idx_ri, idxS_d, idx_rs, idx_ti, fldO_i, fld_r, eq_d, ne_d, lt_d, le_d, gt_d, ge_d, is_d, isnot_d, in_d, notin_d, map_some, eqA_int, eqA_bl, len_tup, lenO_l, lenO_k, lenO_d, len_ref, Ab.int_int, Ab.add_int, Ab.sub_int, max_int, min_int, setI_ri, Bool.not_true, Bool.not_false, W_ok, W_bad, WS_fl, W_bind, WS_st, sq_nx, sq_rt, sq_bk, sq_ct, WS_seq, en_nx, en_rt, W_end, tn_nx, tn_ct, tn_bk, tn_rt, atI0, atI1, atI2, atI3, W_ofO, setO_0, setO_1, setO_2, get_set_s, get_set_n, get_push_lt, lt_push, lt_set, ne_push, push_n', set_n', get_push_self, mulR, Ab.mod_int, Int.reduceLT, Int.reduceNeg, Int.reduceEq, lstA_ok, tupA_ok, lcE_ok, wipeA, List.set_cons_zero, List.set_cons_succ, ev_lc, ev_lc2, ev_dc, dcE_ok, ev_sup, src_e, src_r, src_en, srcV_t, srcV_s, srcV_r, srcO_l, rngV_n, list_r, list_t, tuple_r, tuple_t, seqO_l, seqO_k, listO_s, tupO_s, List.length_cons, List.length_nil, Nat.reduceAdd, Nat.reduceLeDiff, ne_eq, not_false_eq_true, Option.some.injEq, exists_eq_left'])
      exact ⟨_, _, _, _, _, _, rfl, (Pen.fr hp3 ((w3.trans x6).trans x10) id id).mono (by omega)⟩
  · exact fun ρ S _ => at_rngE
  · exact fun ρ S _ => trivial
end
end La

namespace La
open PySem PySem.Spec PyProof.Rows L2 Ab
def ex (K : PySem.W.Frag) : Bool := mbB G K && (noLst K && vs.all fun u => u.kB PySem.Challenge.pw_neargrades_k13_errors G K)
abbrev R : PySem.W.OpenRow := PySem.W.OpenLaw.row PySem.Challenge.rw_neargrades_k13_errors
abbrev hk : PySem.W.Hook := hookB 5 fn vs ex
def ob (s : PySem.W.SharedT) : AlB := obsB 5 fn vs ex (HandSHeadRun.getT s)
theorem ob_eq (s : PySem.W.SharedT) : ob s = hk.obs s.abs := obsB_eq (HandSHeadRun.getT_eq s)
theorem run (w : World) : HandSHeadRun.RunEq R (PySem.W.view R.prog [lawAt]) hk ob 20000 loose w := by
  intro os
  kernel_rfl
end La

namespace La
open PySem PySem.Spec PyProof.Rows L2 Ab
theorem us_ok : us.all Fu.ok = true := by kernel_rfl
theorem vs_ok : vs.all FuS.ok = true := by kernel_rfl
theorem fns_eq : G.fns = us.map (·.f) ++ vs.map (·.f) := by kernel_rfl
theorem kw1 : ((List.range us.length).all fun k => decide (kwOf G k = [])) = true := by kernel_rfl
theorem kw2 : ((List.range vs.length).all fun j => decide (vs[j]?.map (·.ks) = some (kwOf G (us.length + j)))) = true := by kernel_rfl
theorem bind0 : BindP v0 := fun kV doc pm an cdv ct cc us hl => match us, hl with | [_], _ => rfl
theorem bind1 : BindP v1 := fun kV doc pm an cdv ct cc us hl => match us, hl with | [_], _ => rfl
theorem bind2 : BindP v2 := fun kV doc pm an cdv ct cc us hl => match us, hl with | [_], _ => rfl
theorem bind3 : BindP v3 := fun kV doc pm an cdv ct cc us hl => match us, hl with | [_], _ => rfl
theorem bind4 : BindP v4 := fun kV doc pm an cdv ct cc us hl => match us, hl with | [_], _ => rfl
theorem bind5 : BindP v5 := fun kV doc pm an cdv ct cc us hl => match us, hl with | [_], _ => rfl
theorem bind6 : BindP v6 := fun kV doc pm an cdv ct cc us hl => match us, hl with | [_], _ => rfl
theorem bind7 : BindP v7 := fun kV doc pm an cdv ct cc us hl => match us, hl with | [_], _ => rfl
theorem bind8 : BindP v8 := fun kV doc pm an cdv ct cc us hl => match us, hl with | [_], _ => rfl
theorem bind9 : BindP v9 := fun kV doc pm an cdv ct cc us hl => match us, hl with | [_], _ => rfl
theorem bind10 : BindP v10 := fun kV doc pm an cdv ct cc us hl => match us, hl with | [_], _ => rfl
theorem bind11 : BindP v11 := fun kV doc pm an cdv ct cc us hl => match us, hl with | [_, _, _], _ => rfl
theorem bind12 : BindP v12 := fun kV doc pm an cdv ct cc us hl => match us, hl with | [_, _], _ => rfl
theorem bind13 : BindP v13 := fun kV doc pm an cdv ct cc us hl => match us, hl with | [_, _], _ => rfl
theorem bind14 : BindP v14 := fun kV doc pm an cdv ct cc us hl => match us, hl with | [_, _], _ => rfl
theorem bind15 : BindP v15 := fun kV doc pm an cdv ct cc us hl => match us, hl with | [_, _], _ => rfl
theorem bind16 : BindP v16 := fun kV doc pm an cdv ct cc us hl => match us, hl with | [_, _], _ => rfl
theorem bind17 : BindP v17 := fun kV doc pm an cdv ct cc us hl => match us, hl with | [_, _], _ => rfl
theorem bind18 : BindP v18 := fun kV doc pm an cdv ct cc us hl => match us, hl with | [_, _], _ => rfl
theorem bind19 : BindP v19 := fun kV doc pm an cdv ct cc us hl => match us, hl with | [_, _], _ => rfl
theorem bind20 : BindP v20 := fun kV doc pm an cdv ct cc us hl => match us, hl with | [_, _], _ => rfl
theorem bind21 : BindP v21 := fun kV doc pm an cdv ct cc us hl => match us, hl with | [_, _], _ => rfl
theorem bind22 : BindP v22 := fun kV doc pm an cdv ct cc us hl => match us, hl with | [_, _], _ => rfl
theorem bind23 : BindP v23 := fun kV doc pm an cdv ct cc us hl => match us, hl with | [_, _], _ => rfl
theorem bind24 : BindP v24 := fun kV doc pm an cdv ct cc us hl => match us, hl with | [_, _], _ => rfl
theorem bind25 : BindP v25 := fun kV doc pm an cdv ct cc us hl => match us, hl with | [_, _], _ => rfl
theorem bind26 : BindP v26 := fun kV doc pm an cdv ct cc us hl => match us, hl with | [_, _], _ => rfl
theorem bind27 : BindP v27 := fun kV doc pm an cdv ct cc us hl => match us, hl with | [_, _], _ => rfl
theorem bind28 : BindP v28 := fun kV doc pm an cdv ct cc us hl => match us, hl with | [_, _], _ => rfl
theorem bind29 : BindP v29 := fun kV doc pm an cdv ct cc us hl => match us, hl with | [_, _], _ => rfl
theorem binds : ∀ u ∈ vs, BindP u := fun u hu => by
  have h : u = v0 ∨ u = v1 ∨ u = v2 ∨ u = v3 ∨ u = v4 ∨ u = v5 ∨ u = v6 ∨ u = v7 ∨ u = v8 ∨ u = v9 ∨ u = v10 ∨ u = v11 ∨ u = v12 ∨ u = v13 ∨ u = v14 ∨ u = v15 ∨ u = v16 ∨ u = v17 ∨ u = v18 ∨ u = v19 ∨ u = v20 ∨ u = v21 ∨ u = v22 ∨ u = v23 ∨ u = v24 ∨ u = v25 ∨ u = v26 ∨ u = v27 ∨ u = v28 ∨ u = v29 := by simpa [vs] using hu
  rcases h with h | h | h | h | h | h | h | h | h | h | h | h | h | h | h | h | h | h | h | h | h | h | h | h | h | h | h | h | h | h <;> subst h
  · exact bind0
  · exact bind1
  · exact bind2
  · exact bind3
  · exact bind4
  · exact bind5
  · exact bind6
  · exact bind7
  · exact bind8
  · exact bind9
  · exact bind10
  · exact bind11
  · exact bind12
  · exact bind13
  · exact bind14
  · exact bind15
  · exact bind16
  · exact bind17
  · exact bind18
  · exact bind19
  · exact bind20
  · exact bind21
  · exact bind22
  · exact bind23
  · exact bind24
  · exact bind25
  · exact bind26
  · exact bind27
  · exact bind28
  · exact bind29
abbrev PG : Program := PySem.Challenge.pw_neargrades_k13_errors
theorem facts {w : World} {K : PySem.W.Frag} {h : Heap} {mg : Str → Option Value} {f : Addr} (X : K.In h) (N : h.Ns mainGlobals mg) (hfa : mg ("law" : Str) = some (.ref f)) (c : He.SaysD [] fn K) (e : ex K = true) (sv : (vs.map fun u => fnS K u.f) = vs.map FuS.val) :
    ∃ fd : FuncData, noLst K = true ∧ (∀ (s : Shared) (v : Value), K.In s.heap → BindsTo s fd ⟨[v], []⟩ [("_law_script", v)]) ∧ ∀ base : Heap, FnG PG w K mg base (CX PG w) 80 f fd ["_law_script"] (spR K G (callN G fbs 39) b8) := by
  have e' : (mbB G K && (noLst K && vs.all fun u => u.kB PG G K)) = true := e
  rw [Bool.and_eq_true, Bool.and_eq_true] at e'
  obtain ⟨e1, e2, e3⟩ := e'
  have b := mb_of X N e1
  have SK : ∀ u ∈ vs, SupK K PG mg G u := fun u hu => by
    refine supK_of b ?_ (List.all_eq_true.mp e3 u hu)
    exact List.map_inj_left.mp sv u hu
  have F : ∀ (k : Nat) (u : Fu), us[k]? = some u → ∃ fd, FunD K u.name u.qual u.par u.body u.scope [] [] (He.fAd K u.f) fd := fun k u hu => c.def_ k (d := ⟨u.f, u.name, u.qual, u.par, u.body, u.scope, [], []⟩) (by show (us.map _)[k]? = _; rw [List.getElem?_map, hu]; rfl)
  have st := st_of (prog := PG) (w := w) b fbs_eq us_ok vs_ok fns_eq kw1 kw2 F SK binds
  have el : us[8]? = some u8 := by rfl
  obtain ⟨fd, h1, h2, h3, h4⟩ := Fu.step' (prog := PG) (w := w) b (u := u8) (by kernel_rfl) (F 8 u8 el)
  have ef : u8.f = (("law" : Str), none) := by kernel_rfl
  have ea : f = He.fAd K u8.f := by
    have q := b.glo 8 "law" (by kernel_rfl)
    rw [ef]
    rw [hfa] at q
    exact Value.ref.inj (Option.some.inj q)
  have eb : u8.fb G = b8 := by kernel_rfl
  have ep : u8.ps = (["_law_script"] : List Str) := by kernel_rfl
  rw [eb, ep, ← ea] at h4
  rw [ep] at h1
  exact ⟨fd, e2, fun s v hK => h1.pos s [v] hK rfl, fun base => h4 base (callN G fbs 39) 78 (fns_ok (base := base) st 39)⟩
theorem law_run {ns : List Int} : ∃ S', runFn ⟨G, callN G fbs 39⟩ b8 [.ref 0] (S0 ns) = .ok (.bl true) S' := by
  obtain ⟨v, S', e, rfl⟩ := law_ok (ns := ns)
  exact ⟨S', e⟩
end La
open PySem PySem.W PySem.Calls PyProof.Rows
theorem PySem.Challenge.cw_neargrades_k13_errors_holds : PySem.Challenge.rw_neargrades_k13_errors.Holds := by
  w_on; o_law
  refine HandSHeadRun.head_any (r := OpenLaw.row PySem.Challenge.rw_neargrades_k13_errors) (q := view (OpenLaw.row PySem.Challenge.rw_neargrades_k13_errors).prog [La.lawAt]) (H := La.hk) (ob := La.ob) (M := 20000) (loose := La.loose) (d := HandSHeadRun.topDef (OpenLaw.row PySem.Challenge.rw_neargrades_k13_errors).prog La.lawAt) (kwd := []) La.ob_eq
    (by kernel_rfl) (fun s => by kernel_rfl) La.run (by kernel_rfl) (by kernel_rfl) (by kernel_rfl) (by rfl) (by first | assumption | decide +kernel) (by decide +kernel) ⟨rfl, rfl, rfl, rfl, rfl, by decide +kernel⟩ ?hw ?hc
  case hw => w_witness2
  case hc =>
    refine Ab.walk_ofG (l := PySem.Challenge.rw_neargrades_k13_errors) (n := 63) (k := 80) (x := "_law_script") (CX := fun outer H s E e s' => ∃ w, L2.CX La.PG w outer H s E e s') rfl (by decide) (by kernel_rfl) ⟨rfl, by decide, by decide⟩ ?F (fun _ _ _ _ ⟨_, z⟩ => Ab.cx_false z)
    intro w mg fa h Y N hmg0
    obtain ⟨K, KX, c, e, sv⟩ := Y
    have hmg : mg ("law" : PySem.Str) = some (.ref fa) := by
      have e : (HandSHeadRun.topDef (OpenLaw.row PySem.Challenge.rw_neargrades_k13_errors).prog La.lawAt).name = ("law" : PySem.Str) := by kernel_rfl
      rw [← e]
      exact hmg0
    obtain ⟨fd, nl, hb, hF⟩ := La.facts (w := w) KX N hmg c e sv
    refine ⟨K, fd, Ab.spR K La.G (Ab.callN La.G La.fbs 39) La.b8, KX, nl, hb, fun a vs ns _ => ?_, fun base _ _ => (hF base).cx fun _ _ _ _ _ _ z => ⟨w, z⟩⟩
    obtain ⟨S', e⟩ := La.law_run (ns := ns)
    exact Ab.sp_lawR e

