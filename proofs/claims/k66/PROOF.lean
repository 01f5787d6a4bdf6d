import PyProof.Rows.All
import Wide.All
import OpenK.AllK
import Wide.FinOn
import HandS.ForMost
import HandS.Wide
import HandS.Deep
import HandS.SortInts
import HandS.IsInst
import HandS.TupAny
import HandS.Style
import HandS.Conv
import HandS.Zip
import KE.SortData
import HandS.FStr
import HandS.RaiseMore
import KE.KDictKeyed
import KE.KDictWalk
import KE.KDictLaw
import KE.KDictSum
import HandS.SetKeys
import HandS.SetFor
import HandS.Strs
import PySem.Challenge.RW_samehops_k66_prefixes_of_numbers
set_option Elab.async false
set_option linter.all false
set_option maxRecDepth 100000
/-! M1: plain data D over the hand layer's abstract heap, labels of ownership, simulation of readings by plain functions. -/
namespace M
open PySem PySem.Spec PyProof.Rows L2

abbrev St := L2.St
/-- plain data -/
inductive D where
  | non | bl (b : Bool) | int (i : Int) | str (x : Str) | tup (ds : List D) | lst (ds : List D) | ref (n : Nat) | ty (n : String) | scr (ns : List Int) | set (ds : List D)

/-- a cell of the store: what several places may change -/
inductive Cell where
  | lst (ds : List D)
  | dk (kvs : List (Key × D))
  /-- a dict whose keys are tuples -/
  | dd (kvs : List (NestedKey × D))
  /-- an instance of an own class -/
  | ob (c : Nat) (fs : List (Str × D))
  /-- while it is walked -/
  | lk (c : Cell)

abbrev Env := List (Option D)
abbrev Sto := List Cell
structure Exn where
  cls : Nat
  fs : List (Str × D)
inductive Res (α : Type) where
  | ok (a : α) (s : Sto)
  | ex (e : Exn) (s : Sto)
  | no
def Res.bind {α β : Type} (r : Res α) (f : α → Sto → Res β) : Res β := match r with
  | .ok a s => f a s
  | .ex e s => .ex e s
  | .no => .no
abbrev ME := Env → Sto → Res D
abbrev MA := Env → Sto → Res (List D)
abbrev MT := Env → Sto → Res Bool
inductive Out where
  | nx (ρ : Env) | rt (d : D) | bk (ρ : Env) | ct (ρ : Env)
abbrev MS := Env → Sto → Res Out

/-! ### labels -/
inductive Lab where
  | frz | slot (i : Nat) | cell (n : Nat) | tmp | out
  deriving DecidableEq
abbrev Own := Addr → Lab
def NonCell (own : Own) (a : Addr) : Prop := ∀ n, own a ≠ .cell n

/-- a list that stands for good -/
def FzL (own : Own) (H : Hp) (a : Addr) (vs : List V) : Prop := H a = some (.lst vs) ∧ own a = .frz

/-- the script -/
def SqZ (K : PySem.W.Frag) (H : Hp) (a : Addr) (vs : List V) : Prop := (∃ o, H a = some (.frz o (.lst vs))) ∨
    ∃ (o : Obj) (its : Array Value) (n : Nat), K.lookup a = some o ∧ o.cls = .type "list" ∧ o.dict = none ∧ o.data = .seq its n ∧ its.size ≤ sizeLine ∧ Vals vs its.toList
theorem SqZ.sq {K : PySem.W.Frag} {H : Hp} {a : Addr} {vs : List V} (h : SqZ K H a vs) : SqL K H a vs := by
  rcases h with ⟨o, h⟩ | h
  · exact .inl (.inr ⟨o, h⟩)
  · exact .inr h
/-- a set at a: its items in the table's order -/
def sN (a : Addr) (vs : List V) : HO := .ext fun h => ∃ o es ep t, h.get? a = some o ∧ o.ExactSet ∧ o.data = .set es ep t ∧ Vals vs (es.toList.map (·.2)) ∧ t.fits es.size = true
/-- a dict at a whose keys are tuples: key, its place, value -/
def dN (w : World) (a : Addr) (xs : List (NestedKey × Addr × V)) : HO := .ext fun h => (a == sysModules) = false ∧ xs.length ≤ sizeLine ∧ (xs.map (·.1)).Nodup ∧
  ∃ o es ep, ∃ ys : List (NestedKey × Addr × Value), h.get? a = some o ∧ o.ExactDict ∧ o.data = .dict es ep ∧ Paired (fun (p : NestedKey × Addr × V) (q : NestedKey × Addr × Value) => p.1 = q.1 ∧ p.2.1 = q.2.1 ∧ RelV p.2.2 q.2.2) xs ys ∧
    es.toList = ys.map fun y => (⟨y.1.hash w, .ref y.2.1, y.2.2⟩ : DictEntry)
mutual
def keyD : NestedKey → D
  | .none => .non
  | .num i => .int i
  | .text x => .str x
  | .tup ks => .tup (keyDs ks)
def keyDs : List NestedKey → List D
  | [] => []
  | k :: ks => keyD k :: keyDs ks
end
mutual
def nkOf : D → Option NestedKey
  | .non => some .none
  | .int i => some (.num i)
  | .str x => some (.text x)
  | .tup ds => (nksOf ds).map .tup
  | _ => none
def nksOf : List D → Option (List NestedKey)
  | [] => some []
  | d :: ds => match nkOf d, nksOf ds with
    | some k, some ks => some (k :: ks)
    | _, _ => none
end
mutual
/-- v stands for the datum d, for good -/
inductive Rep (K : PySem.W.Frag) (μ : List Addr) (own : Own) (H : Hp) : D → V → Prop
  | non : Rep K μ own H .non .non
  | bl (b : Bool) : Rep K μ own H (.bl b) (.bl b)
  | int (i : Int) : Rep K μ own H (.int i) (.int i)
  | str (x : Str) : Rep K μ own H (.str x) (.str x)
  | ty (n : String) : Rep K μ own H (.ty n) (.ty n)
  | tup {a : Addr} {vs : List V} {ds : List D} : ds.length ≤ sizeLine → SqT K H a vs → Reps K μ own H ds vs → Rep K μ own H (.tup ds) (.ref a)
  | lst {a : Addr} {vs : List V} {ds : List D} : ds.length ≤ sizeLine → FzL own H a vs → Reps K μ own H ds vs → Rep K μ own H (.lst ds) (.ref a)
  | ref {n : Nat} {a : Addr} : μ[n]? = some a → Rep K μ own H (.ref n) (.ref a)
  | scr {a : Addr} {ns : List Int} : SqZ K H a (ns.map V.int) → Rep K μ own H (.scr ns) (.ref a)
  | set {a : Addr} {vs : List V} {ds es : List D} : ds.length ≤ sizeLine → H a = some (sN a vs) → own a = .frz → es.Perm ds → Reps K μ own H es vs → Rep K μ own H (.set ds) (.ref a)
inductive Reps (K : PySem.W.Frag) (μ : List Addr) (own : Own) (H : Hp) : List D → List V → Prop
  | nil : Reps K μ own H [] []
  | cons {d : D} {v : V} {ds : List D} {vs : List V} : Rep K μ own H d v → Reps K μ own H ds vs → Reps K μ own H (d :: ds) (v :: vs)
end
section
variable {BB : Bd} {K : PySem.W.Frag} {μ μ' : List Addr} {own own' : Own} {H H' : Hp}
theorem Reps.length : ∀ {ds : List D} {vs : List V}, Reps K μ own H ds vs → ds.length = vs.length
  | _, _, .nil => rfl
  | _, _, .cons _ t => congrArg (· + 1) (Reps.length t)
theorem Reps.get : ∀ {ds : List D} {vs : List V} {i : Nat} {d : D}, Reps K μ own H ds vs → ds[i]? = some d → ∃ v, vs[i]? = some v ∧ Rep K μ own H d v
  | _, _, _, _, .nil, e => by simp at e
  | _, _, 0, _, .cons r _, e => by simp at e; subst e; exact ⟨_, rfl, r⟩
  | _, _, i + 1, d, .cons _ t, e => by
    obtain ⟨u, h1, h2⟩ := Reps.get (i := i) (d := d) t (by simpa using e)
    exact ⟨u, by simpa using h1, h2⟩
theorem Reps.get' : ∀ {ds : List D} {vs : List V} {i : Nat} {v : V}, Reps K μ own H ds vs → vs[i]? = some v → ∃ d, ds[i]? = some d ∧ Rep K μ own H d v
  | _, _, _, _, .nil, e => by simp at e
  | _, _, 0, _, .cons r _, e => by simp at e; subst e; exact ⟨_, rfl, r⟩
  | _, _, i + 1, v, .cons _ t, e => by
    obtain ⟨u, h1, h2⟩ := Reps.get' (i := i) (v := v) t (by simpa using e)
    exact ⟨u, by simpa using h1, h2⟩
theorem Reps.append : ∀ {ds es : List D} {vs ws : List V}, Reps K μ own H ds vs → Reps K μ own H es ws → Reps K μ own H (ds ++ es) (vs ++ ws)
  | _, _, _, _, .nil, s => s
  | _, _, _, _, .cons r t, s => .cons r (Reps.append t s)
theorem Reps.one {d : D} {v : V} (h : Rep K μ own H d v) : Reps K μ own H [d] [v] := .cons h .nil
theorem Reps.take : ∀ {ds : List D} {vs : List V} (n : Nat), Reps K μ own H ds vs → Reps K μ own H (ds.take n) (vs.take n)
  | _, _, 0, _ => .nil
  | _, _, _ + 1, .nil => .nil
  | _, _, n + 1, .cons r t => .cons r (Reps.take n t)
theorem Reps.drop : ∀ {ds : List D} {vs : List V} (n : Nat), Reps K μ own H ds vs → Reps K μ own H (ds.drop n) (vs.drop n)
  | _, _, 0, r => r
  | _, _, _ + 1, .nil => .nil
  | _, _, n + 1, .cons _ t => Reps.drop n t
theorem Reps.set {d : D} {v : V} (r : Rep K μ own H d v) : ∀ {ds : List D} {vs : List V} (i : Nat), Reps K μ own H ds vs → Reps K μ own H (ds.set i d) (vs.set i v)
  | _, _, _, .nil => .nil
  | _, _, 0, .cons _ t => .cons r t
  | _, _, i + 1, .cons q t => .cons q (Reps.set r i t)
theorem Reps.ints : ∀ (ns : List Int), Reps K μ own H (ns.map D.int) (ns.map V.int)
  | [] => .nil
  | n :: ns => .cons (.int n) (Reps.ints ns)

/-- what a lasting datum leans on stays -/
structure Keeps (own own' : Own) (H H' : Hp) : Prop where
  tup : ∀ a xs, H a = some (.tup xs) → H' a = some (.tup xs)
  frzs : ∀ a o u, H a = some (.frz o u) → H' a = some (.frz o u)
  frz : ∀ a o, H a = some o → own a = .frz → H' a = some o ∧ own' a = .frz
theorem Keeps.refl : Keeps own own H H := ⟨fun _ _ h => h, fun _ _ _ h => h, fun _ _ h e => ⟨h, e⟩⟩
theorem Keeps.trans {own'' : Own} {H'' : Hp} (a : Keeps own own' H H') (b : Keeps own' own'' H' H'') : Keeps own own'' H H'' :=
  ⟨fun c xs h => b.tup c xs (a.tup c xs h), fun c o u h => b.frzs c o u (a.frzs c o u h), fun c o h e => let ⟨h1, e1⟩ := a.frz c o h e; b.frz c o h1 e1⟩
theorem Keeps.sqT (k : Keeps own own' H H') {a : Addr} {vs : List V} (h : SqT K H a vs) : SqT K H' a vs := by
  rcases h with (h | ⟨o, h⟩) | h
  · exact .inl (.inl (k.tup _ _ h))
  · exact .inl (.inr ⟨o, k.frzs _ _ _ h⟩)
  · exact .inr h
theorem Keeps.fzL (k : Keeps own own' H H') {a : Addr} {vs : List V} (h : FzL own H a vs) : FzL own' H' a vs := by
  exact k.frz _ _ h.1 h.2
theorem pre_get {n : Nat} {a : Addr} (m : μ <+: μ') (h : μ[n]? = some a) : μ'[n]? = some a := by
  obtain ⟨t, rfl⟩ := m
  rw [List.getElem?_append_left (List.getElem?_eq_some_iff.mp h).1]
  exact h
mutual
theorem Rep.keep (k : Keeps own own' H H') (m : μ <+: μ') : ∀ {d : D} {v : V}, Rep K μ own H d v → Rep K μ' own' H' d v
  | _, _, .non => .non
  | _, _, .bl b => .bl b
  | _, _, .int i => .int i
  | _, _, .str x => .str x
  | _, _, .ty n => .ty n
  | _, _, .tup z h r => .tup z (k.sqT h) (Reps.keep k m r)
  | _, _, .lst z h r => .lst z (k.fzL h) (Reps.keep k m r)
  | _, _, .ref h => .ref (pre_get m h)
  | _, _, .scr h => .scr (h.elim (fun ⟨o, h⟩ => .inl ⟨o, k.frzs _ _ _ h⟩) .inr)
  | _, _, .set z h l p r => .set z (k.frz _ _ h l).1 (k.frz _ _ h l).2 p (Reps.keep k m r)
theorem Reps.keep (k : Keeps own own' H H') (m : μ <+: μ') : ∀ {ds : List D} {vs : List V}, Reps K μ own H ds vs → Reps K μ' own' H' ds vs
  | _, _, .nil => .nil
  | _, _, .cons h r => .cons (Rep.keep k m h) (Reps.keep k m r)
end

/-! ### what is owned: the k outermost lists -/
/-- pairs in two lists -/
inductive All2 {α β : Type} (F : α → β → Prop) : List α → List β → Prop
  | nil : All2 F [] []
  | cons {a : α} {b : β} {as : List α} {bs : List β} : F a b → All2 F as bs → All2 F (a :: as) (b :: bs)
def isL : D → Bool
  | .lst _ => true
  | _ => false
/-- lists within stand apart -/
def Apart (ds : List D) (vs : List V) : Prop := ∀ (i j : Nat) (d : D) (v : V), ds[i]? = some d → isL d = true → vs[i]? = some v → vs[j]? = some v → i = j
def RepK (K : PySem.W.Frag) (μ : List Addr) (own : Own) (H : Hp) : Nat → (Addr → Prop) → D → V → Prop
  | 0, _, d, v => Rep K μ own H d v
  | k + 1, P, d, v => (isL d = false ∧ Rep K μ own H d v) ∨ ∃ a vs ds, v = .ref a ∧ d = .lst ds ∧ P a ∧ H a = some (.lst vs) ∧ ds.length ≤ sizeLine ∧ All2 (fun d v => RepK K μ own H k P d v) ds vs ∧ (k ≠ 0 → Apart ds vs)
theorem All2.mono {α β : Type} {F G : α → β → Prop} (h : ∀ a b, F a b → G a b) : ∀ {as : List α} {bs : List β}, All2 F as bs → All2 G as bs
  | _, _, .nil => .nil
  | _, _, .cons x t => .cons (h _ _ x) (All2.mono h t)
theorem All2.length {α β : Type} {F : α → β → Prop} : ∀ {as : List α} {bs : List β}, All2 F as bs → as.length = bs.length
  | _, _, .nil => rfl
  | _, _, .cons _ t => congrArg (· + 1) (All2.length t)
theorem All2.append {α β : Type} {F : α → β → Prop} : ∀ {as as' : List α} {bs bs' : List β}, All2 F as bs → All2 F as' bs' → All2 F (as ++ as') (bs ++ bs')
  | _, _, _, _, .nil, s => s
  | _, _, _, _, .cons x t, s => .cons x (All2.append t s)
theorem All2.get {α β : Type} {F : α → β → Prop} : ∀ {as : List α} {bs : List β} {i : Nat} {a : α}, All2 F as bs → as[i]? = some a → ∃ b, bs[i]? = some b ∧ F a b
  | _, _, _, _, .nil, e => by simp at e
  | _, _, 0, _, .cons r _, e => by simp at e; subst e; exact ⟨_, rfl, r⟩
  | _, _, i + 1, d, .cons _ t, e => by
    obtain ⟨u, h1, h2⟩ := All2.get (i := i) (a := d) t (by simpa using e)
    exact ⟨u, by simpa using h1, h2⟩
theorem Reps.all2 : ∀ {ds : List D} {vs : List V}, Reps K μ own H ds vs → All2 (fun d v => Rep K μ own H d v) ds vs
  | _, _, .nil => .nil
  | _, _, .cons r t => .cons r (Reps.all2 t)
theorem All2.reps : ∀ {ds : List D} {vs : List V}, All2 (fun d v => Rep K μ own H d v) ds vs → Reps K μ own H ds vs
  | _, _, .nil => .nil
  | _, _, .cons r t => .cons r (All2.reps t)
/-- with the owned addresses' own heap entries kept -/
theorem RepK.keep {P P' : Addr → Prop} (kp : Keeps own own' H H') (m : μ <+: μ') (hP : ∀ a o, P a → H a = some o → P' a ∧ H' a = some o) : ∀ {k : Nat} {d : D} {v : V}, RepK K μ own H k P d v → RepK K μ' own' H' k P' d v
  | 0, _, _, h => Rep.keep kp m h
  | k + 1, _, _, .inl ⟨n, h⟩ => .inl ⟨n, Rep.keep kp m h⟩
  | k + 1, _, _, .inr ⟨a, vs, ds, e1, e2, p, hh, z, r, nd⟩ => .inr ⟨a, vs, ds, e1, e2, (hP a _ p hh).1, (hP a _ p hh).2, z, r.mono fun _ _ q => RepK.keep kp m hP q, nd⟩
theorem RepK.imp {P P' : Addr → Prop} (hP : ∀ a, P a → P' a) {k : Nat} {d : D} {v : V} (h : RepK K μ own H k P d v) : RepK K μ own H k P' d v :=
  h.keep .refl (List.prefix_refl _) fun a o p q => ⟨hP a p, q⟩
/-- owned is frozen by a new label -/
theorem RepK.freeze {P : Addr → Prop} (kp : Keeps own own' H H) (hP : ∀ a o, P a → H a = some o → own' a = .frz) : ∀ {k : Nat} {d : D} {v : V}, RepK K μ own H k P d v → Rep K μ own' H d v
  | 0, _, _, h => Rep.keep kp (List.prefix_refl _) h
  | k + 1, _, _, .inl ⟨_, h⟩ => Rep.keep kp (List.prefix_refl _) h
  | k + 1, _, _, .inr ⟨a, vs, ds, e1, e2, p, hh, z, r, _⟩ => by
    subst e1 e2
    exact .lst z ⟨hh, hP a _ p hh⟩ (All2.reps (r.mono fun _ _ q => RepK.freeze kp hP q))
end

/-! ### the state -/
/-- the world, the own classes -/
structure Bd where
  w : World
  CT : Nat → Option Addr
/-- the content of a cell -/
inductive CoOk (BB : Bd) (K : PySem.W.Frag) (μ : List Addr) (own : Own) (H : Hp) (a : Addr) : HO → Cell → Prop
  | lst {ds : List D} {vs : List V} : ds.length ≤ sizeLine → Reps K μ own H ds vs → CoOk BB K μ own H a (.lst vs) (.lst ds)
  | dk {kvs : List (Key × D)} {kws : List (Key × V)} : kvs.map (·.1) = kws.map (·.1) → Reps K μ own H (kvs.map (·.2)) (kws.map (·.2)) → CoOk BB K μ own H a (.dK kws) (.dk kvs)
  | dd {kvs : List (NestedKey × D)} {xs : List (NestedKey × Addr × V)} : kvs.map (·.1) = xs.map (·.1) → (∀ x ∈ xs, ∃ ks, x.1 = .tup ks ∧ x.1.depth ≤ 8) → Reps K μ own H (kvs.map fun p => keyD p.1) (xs.map fun x => .ref x.2.1) → Reps K μ own H (kvs.map (·.2)) (xs.map (·.2.2)) →
      CoOk BB K μ own H a (dN BB.w a xs) (.dd kvs)
inductive CellOk (BB : Bd) (K : PySem.W.Frag) (μ : List Addr) (own : Own) (H : Hp) (a : Addr) : Cell → Prop
  | lst {ds : List D} {vs : List V} : ds.length ≤ sizeLine → H a = some (.lst vs) → Reps K μ own H ds vs → CellOk BB K μ own H a (.lst ds)
  | dk {kvs : List (Key × D)} {kws : List (Key × V)} : H a = some (.dK kws) → kvs.map (·.1) = kws.map (·.1) → Reps K μ own H (kvs.map (·.2)) (kws.map (·.2)) → CellOk BB K μ own H a (.dk kvs)
  | dd {kvs : List (NestedKey × D)} {xs : List (NestedKey × Addr × V)} : H a = some (dN BB.w a xs) → CoOk BB K μ own H a (dN BB.w a xs) (.dd kvs) → CellOk BB K μ own H a (.dd kvs)
  | ob {C dx : Addr} {c : Nat} {fs : List (Str × D)} {gs : List (Str × V)} : BB.CT c = some C → H a = some (.ins C dx gs) → H dx = some (.own a) → own dx = .frz → fs.map (·.1) = gs.map (·.1) → Reps K μ own H (fs.map (·.2)) (gs.map (·.2)) → CellOk BB K μ own H a (.ob c fs)
  | lk {od : Obj} {u : HO} {c : Cell} : H a = some (.frz od u) → CoOk BB K μ own H a u c → CellOk BB K μ own H a (.lk c)
structure StoOk (BB : Bd) (K : PySem.W.Frag) (μ : List Addr) (own : Own) (s : Sto) (H : Hp) : Prop where
  len : μ.length = s.length
  cell : ∀ n c, s[n]? = some c → ∃ a, μ[n]? = some a ∧ own a = .cell n ∧ CellOk BB K μ own H a c
  lab : ∀ a n, own a = .cell n → μ[n]? = some a
  fresh : ∀ a, H a = none → own a = .tmp
/-- a slot's datum: Γ tells how deep it is owned -/
structure Rel (BB : Bd) (K : PySem.W.Frag) (Γ : List Nat) (own : Own) (μ : List Addr) (ρ : Env) (s : Sto) (σ : St) (H : Hp) : Prop where
  len : σ.length = ρ.length
  slot : ∀ i d, ρ[i]? = some (some d) → ∃ v, σ[i]? = some (some v) ∧ RepK K μ own H (Γ.getD i 0) (fun a => own a = .slot i) d v
  sto : StoOk BB K μ own s H
/-- an expression leaves all but the store's cells as it was -/
structure Ext (own : Own) (H : Hp) (own' : Own) (H' : Hp) : Prop where
  obj : ∀ a o, H a = some o → NonCell own a → H' a = some o
  tup : ∀ a xs, H a = some (.tup xs) → H' a = some (.tup xs)
  frzs : ∀ a o u, H a = some (.frz o u) → H' a = some (.frz o u)
  lab : ∀ a o, H a = some o → own' a = own a
  there : ∀ a o, H a = some o → ∃ o', H' a = some o'
section
variable {BB : Bd} {K : PySem.W.Frag} {μ μ' μ'' : List Addr} {own own' own'' : Own} {H H' H'' : Hp}
theorem Ext.refl : Ext own H own H := ⟨fun _ _ h _ => h, fun _ _ h => h, fun _ _ _ h => h, fun _ _ _ => rfl, fun _ o h => ⟨o, h⟩⟩
theorem Ext.trans (a : Ext own H own' H') (b : Ext own' H' own'' H'') : Ext own H own'' H'' :=
  ⟨fun c o h n => b.obj c o (a.obj c o h n) (fun m => by rw [a.lab c o h]; exact n m), fun c xs h => b.tup c xs (a.tup c xs h), fun c o u h => b.frzs c o u (a.frzs c o u h),
   fun c o h => by obtain ⟨o', h'⟩ := a.there c o h; rw [b.lab c o' h', a.lab c o h], fun c o h => by obtain ⟨o', h'⟩ := a.there c o h; exact b.there c o' h'⟩
theorem Ext.keeps (e : Ext own H own' H') : Keeps own own' H H' :=
  ⟨e.tup, e.frzs, fun a o h l => ⟨e.obj a o h (fun n => by rw [l]; intro z; cases z), (e.lab a o h).trans l⟩⟩
theorem Ext.none {a : Addr} (e : Ext own H own' H') (h : H' a = none) : H a = none := by
  cases q : H a with
  | none => rfl
  | some o => obtain ⟨o', z⟩ := e.there a o q; rw [h] at z; cases z
end

/-! ### how the value of an expression is held: fresh, or standing somewhere -/
inductive Tag where
  | fresh | bor
def Tag.P : Tag → Own → Hp → Addr → Prop
  | .fresh, own', H => fun a => own' a = .tmp ∧ H a = none
  | .bor, own', _ => fun a => NonCell own' a
theorem Tag.P_nc {g : Tag} {own' : Own} {H : Hp} {a : Addr} (h : g.P own' H a) : NonCell own' a := by
  cases g with
  | fresh => intro n z; rw [h.1] at z; cases z
  | bor => exact h
def RepX (K : PySem.W.Frag) (μ : List Addr) (own : Own) (H : Hp) (CA : Nat → Option Addr) (e : Exn) (c : Value) (x : Option Addr) : Prop :=
  ∃ C d vs, CA e.cls = some C ∧ c = .ref C ∧ x = some d ∧ H d = some (.xd vs) ∧ e.fs.map (·.1) = vs.map (·.1) ∧ Reps K μ own H (e.fs.map (·.2)) (vs.map (·.2))

/-- the fixed surroundings: the written part, the classes of exceptions, the wish about exceptions -/
structure Srd where
  B : Bd
  K : PySem.W.Frag
  CA : Nat → Option Addr
  E : XK

section
variable (S : Srd) (Γ : List Nat) (g : Tag) (k : Nat)
/-- what is to be shown behind an expression whose plain result is r -/
def Done (own : Own) (μ : List Addr) (ρ : Env) (σ : St) (H : Hp) (Q : VK) : Res D → Prop
  | .ok d s' => ∀ own' μ' v H', Rel S.B S.K Γ own' μ' ρ s' σ H' → Ext own H own' H' → μ <+: μ' → RepK S.K μ' own' H' k (g.P own' H) d v → Q v H'
  | .ex e s' => ∀ own' μ' H' c x, Rel S.B S.K Γ own' μ' ρ s' σ H' → Ext own H own' H' → μ <+: μ' → RepX S.K μ' own' H' S.CA e c x → S.E c x H'
  | .no => False
def SimE (t : TE) (m : ME) : Prop := ∀ own μ ρ s σ H Q, Rel S.B S.K Γ own μ ρ s σ H → Done S Γ g k own μ ρ σ H Q (m ρ s) → t σ H Q
end
section
variable (S : Srd) (Γ : List Nat)
/-- of an argument list: all values lasting -/
def DoneA (own : Own) (μ : List Addr) (ρ : Env) (σ : St) (H : Hp) (Q : List V → Hp → Prop) : Res (List D) → Prop
  | .ok ds s' => ∀ own' μ' vs H', Rel S.B S.K Γ own' μ' ρ s' σ H' → Ext own H own' H' → μ <+: μ' → Reps S.K μ' own' H' ds vs → Q vs H'
  | .ex e s' => ∀ own' μ' H' c x, Rel S.B S.K Γ own' μ' ρ s' σ H' → Ext own H own' H' → μ <+: μ' → RepX S.K μ' own' H' S.CA e c x → S.E c x H'
  | .no => False
def SimA (t : TA) (m : MA) : Prop := ∀ own μ ρ s σ H Q, Rel S.B S.K Γ own μ ρ s σ H → DoneA S Γ own μ ρ σ H Q (m ρ s) → t σ H Q
def DoneT (own : Own) (μ : List Addr) (ρ : Env) (σ : St) (H : Hp) (Q : Bool → Hp → Prop) : Res Bool → Prop
  | .ok b s' => ∀ own' μ' H', Rel S.B S.K Γ own' μ' ρ s' σ H' → Ext own H own' H' → μ <+: μ' → Q b H'
  | .ex e s' => ∀ own' μ' H' c x, Rel S.B S.K Γ own' μ' ρ s' σ H' → Ext own H own' H' → μ <+: μ' → RepX S.K μ' own' H' S.CA e c x → S.E c x H'
  | .no => False
def SimT (t : TT) (m : MT) : Prop := ∀ own μ ρ s σ H Q, Rel S.B S.K Γ own μ ρ s σ H → DoneT S Γ own μ ρ σ H Q (m ρ s) → t σ H Q
end

section
variable {S : Srd} {Γ : List Nat} {g : Tag} {k : Nat} {own own1 own2 : Own} {μ μ1 : List Addr} {ρ : Env} {σ : St} {H H1 : Hp} {s : Sto}
theorem Tag.P_step {g : Tag} {own' : Own} {a : Addr} (e : Ext own H own1 H1) (h : g.P own' H1 a) : g.P own' H a := by
  cases g with
  | fresh => exact ⟨h.1, e.none h.2⟩
  | bor => exact h
theorem Done.step {Q : VK} (e : Ext own H own1 H1) (m : μ <+: μ1) : ∀ {r : Res D}, Done S Γ g k own μ ρ σ H Q r → Done S Γ g k own1 μ1 ρ σ H1 Q r
  | .ok d s', h => fun own' μ' v H' R e' m' rv => h own' μ' v H' R (e.trans e') (m.trans m') (rv.imp fun a p => Tag.P_step e p)
  | .ex x s', h => fun own' μ' H' c y R e' m' rx => h own' μ' H' c y R (e.trans e') (m.trans m') rx
  | .no, h => h
theorem DoneA.step {Q : List V → Hp → Prop} (e : Ext own H own1 H1) (m : μ <+: μ1) : ∀ {r : Res (List D)}, DoneA S Γ own μ ρ σ H Q r → DoneA S Γ own1 μ1 ρ σ H1 Q r
  | .ok d s', h => fun own' μ' v H' R e' m' rv => h own' μ' v H' R (e.trans e') (m.trans m') rv
  | .ex x s', h => fun own' μ' H' c y R e' m' rx => h own' μ' H' c y R (e.trans e') (m.trans m') rx
  | .no, h => h
theorem DoneT.step {Q : Bool → Hp → Prop} (e : Ext own H own1 H1) (m : μ <+: μ1) : ∀ {r : Res Bool}, DoneT S Γ own μ ρ σ H Q r → DoneT S Γ own1 μ1 ρ σ H1 Q r
  | .ok d s', h => fun own' μ' H' R e' m' => h own' μ' H' R (e.trans e') (m.trans m')
  | .ex x s', h => fun own' μ' H' c y R e' m' rx => h own' μ' H' c y R (e.trans e') (m.trans m') rx
  | .no, h => h
end
end M
/-! M2: expressions. -/
namespace M
open PySem PySem.Spec PyProof.Rows L2

/-! ### the plain functions -/
def ofO {α : Type} (o : Option α) (s : Sto) : Res α := match o with
  | some d => .ok d s
  | none => .no
def eC (d : D) : ME := fun _ s => .ok d s
def eV (i : Nat) : ME := fun ρ s => match ρ[i]? with
  | some (some d) => .ok d s
  | _ => .no
def e1 (f : D → Option D) (a : ME) : ME := fun ρ s => (a ρ s).bind fun d s1 => ofO (f d) s1
def e2 (f : D → D → Option D) (a b : ME) : ME := fun ρ s => (a ρ s).bind fun d s1 => (b ρ s1).bind fun e s2 => ofO (f d e) s2
def evs : List ME → MA
  | [] => fun _ s => .ok [] s
  | m :: ms => fun ρ s => (m ρ s).bind fun d s1 => (evs ms ρ s1).bind fun ds s2 => .ok (d :: ds) s2
def eTup (ms : List ME) : ME := fun ρ s => (evs ms ρ s).bind fun ds s1 => .ok (.tup ds) s1
def eLst (ms : List ME) : ME := fun ρ s => (evs ms ρ s).bind fun ds s1 => .ok (.lst ds) s1
/-- a built-in by values -/
def eB (f : List D → Option D) (ms : List ME) : ME := fun ρ s => (evs ms ρ s).bind fun ds s1 => ofO (f ds) s1
def eCall (g : List D → Sto → Res D) (ms : List ME) : ME := fun ρ s => (evs ms ρ s).bind fun ds s1 => g ds s1
def eIf (c : MT) (a b : ME) : ME := fun ρ s => (c ρ s).bind fun t s1 => if t then a ρ s1 else b ρ s1
def tOfE (m : ME) : MT := fun ρ s => (m ρ s).bind fun d s1 => match d with
  | .bl b => .ok b s1
  | _ => .no
def tAndM (a b : MT) : MT := fun ρ s => (a ρ s).bind fun c s1 => if c then b ρ s1 else .ok false s1
def tOrM (a b : MT) : MT := fun ρ s => (a ρ s).bind fun c s1 => if c then .ok true s1 else b ρ s1
def tNotM (a : MT) : MT := fun ρ s => (a ρ s).bind fun c s1 => .ok (!c) s1
def eOfT (m : MT) : ME := fun ρ s => (m ρ s).bind fun b s1 => .ok (.bl b) s1
def eAnd (a b : ME) : ME := fun ρ s => (a ρ s).bind fun d s1 => match d with
  | .bl true => b ρ s1
  | .bl false => .ok (.bl false) s1
  | _ => .no
def eOr (a b : ME) : ME := fun ρ s => (a ρ s).bind fun d s1 => match d with
  | .bl true => .ok (.bl true) s1
  | .bl false => b ρ s1
  | _ => .no
def eNot (a : ME) : ME := fun ρ s => (a ρ s).bind fun d s1 => match d with
  | .bl c => .ok (.bl (!c)) s1
  | _ => .no
def truth : D → Option Bool
  | .non => some false
  | .bl b => some b
  | .int i => some (i != 0)
  | .tup ds => some (!ds.isEmpty)
  | .lst ds => some (!ds.isEmpty)
  | _ => none
def tTru (m : ME) : MT := fun ρ s => (m ρ s).bind fun d s1 => ofO (truth d) s1

theorem evs_length : ∀ {ms : List ME} {ρ : Env} {s s' : Sto} {ds : List D}, evs ms ρ s = .ok ds s' → ds.length = ms.length
  | [], ρ, s, s', ds, h => by
    injection h with h1 h2
    subst h1; rfl
  | m :: ms, ρ, s, s', ds, h => by
    unfold evs at h
    cases q : m ρ s with
    | no => rw [q] at h; cases h
    | ex e t => rw [q] at h; cases h
    | ok d s1 =>
      rw [q] at h
      simp only [Res.bind] at h
      cases q2 : evs ms ρ s1 with
      | no => rw [q2] at h; cases h
      | ex e t => rw [q2] at h; cases h
      | ok es s2 =>
        rw [q2] at h
        injection h with h1 h2
        subst h1
        rw [List.length_cons, evs_length q2, List.length_cons]

section
variable {S : Srd} {Γ : List Nat} {g : Tag} {k : Nat}

/-! ### growing -/
def Grow (H H' : Hp) : Prop := ∀ a o, H a = some o → H' a = some o
theorem Grow.refl (H : Hp) : Grow H H := fun _ _ h => h
theorem Grow.upd {H : Hp} {p : Addr} {o : HO} (h : H p = none) : Grow H (upd H p o) := fun a u e => by
  rw [upd_ne (ne_of_none e h)]; exact e
theorem Grow.none {H H' : Hp} (g : Grow H H') {a : Addr} (h : H' a = none) : H a = none := by
  cases q : H a with
  | none => rfl
  | some o => rw [g a o q] at h; cases h
theorem Grow.keeps {H H' : Hp} {own : Own} (g : Grow H H') : Keeps own own H H' := ⟨fun a xs h => g a _ h, fun a o u h => g a _ h, fun a o h e => ⟨g a o h, e⟩⟩
theorem Grow.ext {H H' : Hp} {own : Own} (g : Grow H H') : Ext own H own H' := ⟨fun a o h _ => g a o h, fun a xs h => g a _ h, fun a o u h => g a _ h, fun _ _ _ => rfl, fun a o h => ⟨o, g a o h⟩⟩
theorem CoOk.keep {BB : Bd} {K : PySem.W.Frag} {μ μ' : List Addr} {own own' : Own} {H H' : Hp} {a : Addr} {u : HO} {c : Cell} (kp : Keeps own own' H H') (m : μ <+: μ') (x : CoOk BB K μ own H a u c) : CoOk BB K μ' own' H' a u c := by
  cases x with
  | lst z r => exact .lst z (r.keep kp m)
  | dk q r => exact .dk q (r.keep kp m)
  | dd q t r r' => exact .dd q t (r.keep kp m) (r'.keep kp m)
theorem CellOk.keep {BB : Bd} {K : PySem.W.Frag} {μ μ' : List Addr} {own own' : Own} {H H' : Hp} {a : Addr} {c : Cell} (kp : Keeps own own' H H') (m : μ <+: μ') (h : ∀ o, H a = some o → H' a = some o) (x : CellOk BB K μ own H a c) : CellOk BB K μ' own' H' a c := by
  cases x with
  | lst z e r => exact .lst z (h _ e) (r.keep kp m)
  | dk e q r => exact .dk (h _ e) q (r.keep kp m)
  | dd e r => exact .dd (h _ e) (r.keep kp m)
  | ob c e d l q r => exact .ob c (h _ e) (kp.frz _ _ d l).1 (kp.frz _ _ d l).2 q (r.keep kp m)
  | lk e r => exact .lk (h _ e) (r.keep kp m)
theorem Rel.grow {BB : Bd} {K : PySem.W.Frag} {own : Own} {μ : List Addr} {ρ : Env} {s : Sto} {σ : St} {H H' : Hp} (R : Rel BB K Γ own μ ρ s σ H) (gr : Grow H H') : Rel BB K Γ own μ ρ s σ H' :=
  ⟨R.len, fun i d e => let ⟨v, h1, h2⟩ := R.slot i d e; ⟨v, h1, h2.keep gr.keeps (List.prefix_refl _) fun a o p q => ⟨p, gr a o q⟩⟩,
   ⟨R.sto.len, fun n c e => let ⟨a, h1, h2, h3⟩ := R.sto.cell n c e; ⟨a, h1, h2, h3.keep gr.keeps (List.prefix_refl _) fun o q => gr a o q⟩, R.sto.lab, fun a e => R.sto.fresh a (gr.none e)⟩⟩
/-- a held value over further steps -/
theorem RepK.held {K : PySem.W.Frag} {μ μ' : List Addr} {own own' : Own} {H0 H H' : Hp} {d : D} {v : V} (h : RepK K μ own H k (g.P own H0) d v) (e : Ext own H own' H') (m : μ <+: μ') : RepK K μ' own' H' k (fun a => NonCell own' a) d v :=
  h.keep e.keeps m fun a o p q => ⟨fun n => by rw [e.lab a o q]; exact Tag.P_nc p n, e.obj a o q (Tag.P_nc p)⟩
theorem Rep.ext {K : PySem.W.Frag} {μ μ' : List Addr} {own own' : Own} {H H' : Hp} {d : D} {v : V} (h : Rep K μ own H d v) (e : Ext own H own' H') (m : μ <+: μ') : Rep K μ' own' H' d v := h.keep e.keeps m
theorem Reps.ext {K : PySem.W.Frag} {μ μ' : List Addr} {own own' : Own} {H H' : Hp} {d : List D} {v : List V} (h : Reps K μ own H d v) (e : Ext own H own' H') (m : μ <+: μ') : Reps K μ' own' H' d v := h.keep e.keeps m

/-! ### tags -/
theorem sim_tag0 {g g' : Tag} {t : TE} {m : ME} (h : SimE S Γ g 0 t m) : SimE S Γ g' 0 t m := fun own μ ρ s σ H Q R hd => by
  refine h own μ ρ s σ H Q R ?_
  cases q : m ρ s with
  | no => rw [q] at hd; exact hd
  | ex e s' => rw [q] at hd; exact hd
  | ok d s' => rw [q] at hd; exact hd
theorem sim_bor {t : TE} {m : ME} (h : SimE S Γ g k t m) : SimE S Γ .bor k t m := fun own μ ρ s σ H Q R hd => by
  refine h own μ ρ s σ H Q R ?_
  cases q : m ρ s with
  | no => rw [q] at hd; exact hd
  | ex e s' => rw [q] at hd; exact hd
  | ok d s' =>
    rw [q] at hd
    exact fun own' μ' v H' R' e' m' r => hd own' μ' v H' R' e' m' (r.imp fun a p => Tag.P_nc p)
open Classical in
/-- a fresh value is frozen -/
theorem sim_frz {g' : Tag} {t : TE} {m : ME} (h : SimE S Γ .fresh k t m) : SimE S Γ g' 0 t m := fun own μ ρ s σ H Q R hd => by
  refine h own μ ρ s σ H Q R ?_
  cases q : m ρ s with
  | no => rw [q] at hd; exact hd
  | ex e s' => rw [q] at hd; exact hd
  | ok d s' =>
    rw [q] at hd
    intro own' μ' v H' R' e' m' r
    let own2 : Own := fun a => if own' a = .tmp ∧ H a = none ∧ H' a ≠ none then .frz else own' a
    have l1 : ∀ a, own' a ≠ .tmp → own2 a = own' a := fun a hn => if_neg fun z => hn z.1
    have kp : Keeps own' own2 H' H' := ⟨fun _ _ h => h, fun _ _ _ h => h, fun a o h e => ⟨h, by rw [l1 a (by rw [e]; intro z; cases z)]; exact e⟩⟩
    have nt : ∀ a x, own' a = x → x ≠ .tmp → own2 a = x := fun a x e n => (l1 a (by rw [e]; exact n)).trans e
    have back : ∀ a x, own2 a = x → x ≠ .frz → own' a = x := fun a x e n => by
      by_cases c : own' a = .tmp ∧ H a = none ∧ H' a ≠ none
      · exact absurd ((if_pos c).symm.trans e) (fun z => n z.symm)
      · exact (if_neg c).symm.trans e
    have R2 : Rel S.B S.K Γ own2 μ' ρ s' σ H' := by
      refine ⟨R'.len, fun i d e => ?_, ⟨R'.sto.len, fun n c e => ?_, fun a n e => R'.sto.lab a n (back a _ e (by intro z; cases z)), fun a e => ?_⟩⟩
      · obtain ⟨v, h1, h2⟩ := R'.slot i d e
        exact ⟨v, h1, h2.keep kp (List.prefix_refl _) fun a o p q => ⟨nt a _ p (by intro z; cases z), q⟩⟩
      · obtain ⟨a, h1, h2, h3⟩ := R'.sto.cell n c e
        exact ⟨a, h1, nt a _ h2 (by intro z; cases z), h3.keep kp (List.prefix_refl _) fun o q => q⟩
      · show own2 a = .tmp
        have : own2 a = own' a := if_neg fun z => z.2.2 e
        rw [this]; exact R'.sto.fresh a e
    refine hd own2 μ' v H' R2 ⟨e'.obj, e'.tup, e'.frzs, fun a o h => ?_, e'.there⟩ m' (r.freeze kp fun a o p q => if_pos ⟨p.1, p.2, by rw [q]; intro z; cases z⟩)
    have : own2 a = own' a := if_neg fun z => by rw [h] at z; exact absurd z.2.1 (by intro y; cases y)
    rw [this]; exact e'.lab a o h

/-! ### constants, names -/
theorem sim_c {v : V} {d : D} (h : ∀ μ own H, Rep S.K μ own H d v) : SimE S Γ g 0 (tC v) (eC d) := fun own μ ρ s σ H Q R hd =>
  hd own μ v H R .refl (List.prefix_refl _) (h _ _ _)
theorem sim_int {i : Int} : SimE S Γ g 0 (tC (.int i)) (eC (.int i)) := sim_c fun _ _ _ => .int i
theorem sim_bl {b : Bool} : SimE S Γ g 0 (tC (.bl b)) (eC (.bl b)) := sim_c fun _ _ _ => .bl b
theorem sim_str {x : Str} : SimE S Γ g 0 (tC (.str x)) (eC (.str x)) := sim_c fun _ _ _ => .str x
theorem sim_non : SimE S Γ g 0 (tC .non) (eC .non) := sim_c fun _ _ _ => .non
theorem sim_ty {n : String} : SimE S Γ g 0 (tC (.ty n)) (eC (.ty n)) := sim_c fun _ _ _ => .ty n
theorem sim_varB {i : Nat} (hk : Γ.getD i 0 = k) : SimE S Γ .bor k (tVar i) (eV i) := fun own μ ρ s σ H Q R hd => by
  unfold eV at hd
  split at hd
  · rename_i d e
    obtain ⟨v, h1, h2⟩ := R.slot i d e
    rw [hk] at h2
    exact ⟨v, h1, hd own μ v H R .refl (List.prefix_refl _) (h2.imp fun a p n => by rw [p]; intro z; cases z)⟩
  · exact hd.elim
theorem sim_var {i : Nat} (hk : Γ.getD i 0 = 0) : SimE S Γ g 0 (tVar i) (eV i) := sim_tag0 (sim_varB hk)

/-! ### operations by values -/
/-- two operands, held k1 and k2 deep; the answer is new or lasting -/
def Op2 (S : Srd) (k1 k2 k : Nat) (r : R2) (f : D → D → Option D) : Prop :=
  ∀ (μ : List Addr) (own : Own) (H : Hp) (x y : V) (d1 d2 d : D) (Q : VK), (∀ a, H a = none → own a = .tmp) → RepK S.K μ own H k1 (fun a => NonCell own a) d1 x → RepK S.K μ own H k2 (fun a => NonCell own a) d2 y → f d1 d2 = some d →
    (∀ v H', Grow H H' → RepK S.K μ own H' k (fun a => own a = .tmp ∧ H a = none) d v → Q v H') → r x y H Q
def Op1 (S : Srd) (k1 k : Nat) (r : V → Hp → VK → Prop) (f : D → Option D) : Prop :=
  ∀ (μ : List Addr) (own : Own) (H : Hp) (x : V) (d1 d : D) (Q : VK), (∀ a, H a = none → own a = .tmp) → RepK S.K μ own H k1 (fun a => NonCell own a) d1 x → f d1 = some d →
    (∀ v H', Grow H H' → RepK S.K μ own H' k (fun a => own a = .tmp ∧ H a = none) d v → Q v H') → r x H Q
/-- a row of lasting operands -/
def OpN (S : Srd) (k : Nat) (r : List V → Hp → VK → Prop) (f : List D → Option D) : Prop :=
  ∀ (μ : List Addr) (own : Own) (H : Hp) (xs : List V) (ds : List D) (d : D) (Q : VK), (∀ a, H a = none → own a = .tmp) → Reps S.K μ own H ds xs → f ds = some d →
    (∀ v H', Grow H H' → RepK S.K μ own H' k (fun a => own a = .tmp ∧ H a = none) d v → Q v H') → r xs H Q

theorem done_bind {α : Type} {Q : VK} {own : Own} {μ : List Addr} {ρ : Env} {σ : St} {H : Hp} {g1 : Tag} {k1 : Nat} {r : Res D} {f : D → Sto → Res D} {Q1 : VK}
    (hd : Done S Γ g k own μ ρ σ H Q (r.bind f)) (hn : ∀ d s1 own1 μ1 v H1, Rel S.B S.K Γ own1 μ1 ρ s1 σ H1 → Ext own H own1 H1 → μ <+: μ1 → RepK S.K μ1 own1 H1 k1 (g1.P own1 H) d v → Done S Γ g k own1 μ1 ρ σ H1 Q (f d s1) → Q1 v H1) :
    Done S Γ g1 k1 own μ ρ σ H Q1 r := by
  cases r with
  | no => exact hd
  | ex e s' => exact hd
  | ok d s1 => exact fun own1 μ1 v H1 R1 e1 m1 r1 => hn d s1 own1 μ1 v H1 R1 e1 m1 r1 (Done.step e1 m1 hd)
theorem sim_op2 {g1 g2 : Tag} {k1 k2 : Nat} {r : R2} {f : D → D → Option D} {ta tb : TE} {ma mb : ME} (ho : Op2 S k1 k2 k r f) (ha : SimE S Γ g1 k1 ta ma) (hb : SimE S Γ g2 k2 tb mb) : SimE S Γ .fresh k (tOp r ta tb) (e2 f ma mb) := by
  intro own μ ρ s σ H Q R hd
  refine ha own μ ρ s σ H _ R (done_bind (α := D) hd fun d s1 own1 μ1 v H1 R1 e1 m1 r1 hd1 => ?_)
  refine hb own1 μ1 ρ s1 σ H1 _ R1 (done_bind (α := D) hd1 fun e s2 own2 μ2 u H2 R2 e2 m2 r2 hd2 => ?_)
  cases q : f d e with
  | none => rw [q] at hd2; exact hd2.elim
  | some z =>
    rw [q] at hd2
    refine ho μ2 own2 H2 v u d e z Q R2.sto.fresh (r1.held e2 m2) (r2.imp fun a p => Tag.P_nc p) q fun x H3 gr rv => ?_
    exact hd2 own2 μ2 x H3 (R2.grow gr) gr.ext (List.prefix_refl _) rv
theorem sim_op1 {g1 : Tag} {k1 : Nat} {r : V → Hp → VK → Prop} {f : D → Option D} {ta : TE} {ma : ME} (ho : Op1 S k1 k r f) (ha : SimE S Γ g1 k1 ta ma) : SimE S Γ .fresh k (tUn r ta) (e1 f ma) := by
  intro own μ ρ s σ H Q R hd
  refine ha own μ ρ s σ H _ R (done_bind (α := D) hd fun d s1 own1 μ1 v H1 R1 e1 m1 r1 hd1 => ?_)
  cases q : f d with
  | none => rw [q] at hd1; exact hd1.elim
  | some z =>
    rw [q] at hd1
    exact ho μ1 own1 H1 v d z Q R1.sto.fresh (r1.imp fun a p => Tag.P_nc p) q fun x H3 gr rv => hd1 own1 μ1 x H3 (R1.grow gr) gr.ext (List.prefix_refl _) rv

/-! ### rows of arguments -/
theorem sim_nil : SimA S Γ tNil (evs []) := fun own μ ρ s σ H Q R hd => hd own μ [] H R .refl (List.prefix_refl _) .nil
theorem sim_cons {t : TE} {u : TA} {m : ME} {ms : List ME} (h : SimE S Γ g 0 t m) (hs : SimA S Γ u (evs ms)) : SimA S Γ (tCons t u) (evs (m :: ms)) := fun own μ ρ s σ H Q R hd => by
  refine h own μ ρ s σ H _ R ?_
  unfold evs at hd
  cases q : m ρ s with
  | no => rw [q] at hd; exact hd
  | ex e s' => rw [q] at hd; exact hd
  | ok d s1 =>
    rw [q] at hd
    intro own1 μ1 v H1 R1 e1 m1 r1
    have hd1 := DoneA.step e1 m1 hd
    refine hs own1 μ1 ρ s1 σ H1 _ R1 ?_
    simp only [Res.bind] at hd1
    cases q2 : evs ms ρ s1 with
    | no => rw [q2] at hd1; exact hd1
    | ex e s' => rw [q2] at hd1; exact hd1
    | ok ds s2 =>
      rw [q2] at hd1
      exact fun own2 μ2 vs H2 R2 e2 m2 r2 => hd1 own2 μ2 (v :: vs) H2 R2 e2 m2 (.cons (Rep.ext r1 e2 m2) r2)
theorem doneA_bind {Q : VK} {own : Own} {μ : List Addr} {ρ : Env} {σ : St} {H : Hp} {r : Res (List D)} {f : List D → Sto → Res D} {Q1 : List V → Hp → Prop}
    (hd : Done S Γ g k own μ ρ σ H Q (r.bind f)) (hn : ∀ ds s1 own1 μ1 vs H1, r = .ok ds s1 → Rel S.B S.K Γ own1 μ1 ρ s1 σ H1 → Ext own H own1 H1 → μ <+: μ1 → Reps S.K μ1 own1 H1 ds vs → Done S Γ g k own1 μ1 ρ σ H1 Q (f ds s1) → Q1 vs H1) :
    DoneA S Γ own μ ρ σ H Q1 r := by
  cases r with
  | no => exact hd
  | ex e s' => exact hd
  | ok d s1 => exact fun own1 μ1 v H1 R1 e1 m1 r1 => hn d s1 own1 μ1 v H1 rfl R1 e1 m1 r1 (Done.step e1 m1 hd)
theorem sim_tup {t : TA} {ms : List ME} (h : SimA S Γ t (evs ms)) (hl : ms.length ≤ 1000) : SimE S Γ g 0 (tTup t) (eTup ms) := by
  refine sim_tag0 (g := .fresh) ?_
  intro own μ ρ s σ H Q R hd
  refine h own μ ρ s σ H _ R (doneA_bind hd fun ds s1 own1 μ1 vs H1 q R1 e1 m1 r1 hd1 => ⟨?_, fun p hp => ?_⟩)
  · rw [← r1.length, evs_length q]; exact Nat.le_trans hl (by decide)
  · exact hd1 own1 μ1 (.ref p) _ (R1.grow (Grow.upd hp)) (Grow.upd hp).ext (List.prefix_refl _) (Rep.tup (by rw [evs_length q]; exact Nat.le_trans hl (by decide)) (SqT.of upd_same) (r1.keep (Grow.upd hp).keeps (List.prefix_refl _)))
theorem sim_lst {t : TA} {ms : List ME} (h : SimA S Γ t (evs ms)) (hl : ms.length ≤ 1000) : SimE S Γ .fresh 1 (tLst t) (eLst ms) := by
  intro own μ ρ s σ H Q R hd
  refine h own μ ρ s σ H _ R (doneA_bind hd fun ds s1 own1 μ1 vs H1 q R1 e1 m1 r1 hd1 => ⟨?_, fun p hp => ?_⟩)
  · rw [← r1.length, evs_length q]; exact Nat.le_trans hl (by decide)
  · exact hd1 own1 μ1 (.ref p) _ (R1.grow (Grow.upd hp)) (Grow.upd hp).ext (List.prefix_refl _)
      (.inr ⟨p, vs, ds, rfl, rfl, ⟨R1.sto.fresh p hp, hp⟩, upd_same, (by rw [evs_length q]; exact Nat.le_trans hl (by decide)), (r1.keep (Grow.upd hp).keeps (List.prefix_refl _)).all2, fun z => absurd rfl z⟩)
theorem sim_bi {r : List V → Hp → VK → Prop} {f : List D → Option D} {t : TA} {ms : List ME} (ho : OpN S k r f) (h : SimA S Γ t (evs ms)) : SimE S Γ .fresh k (tCB r t) (eB f ms) := by
  intro own μ ρ s σ H Q R hd
  refine h own μ ρ s σ H _ R (doneA_bind hd fun ds s1 own1 μ1 vs H1 q R1 e1 m1 r1 hd1 => ?_)
  cases q : f ds with
  | none => rw [q] at hd1; exact hd1.elim
  | some z =>
    rw [q] at hd1
    exact ho μ1 own1 H1 vs ds z Q R1.sto.fresh r1 q fun x H3 gr rv => hd1 own1 μ1 x H3 (R1.grow gr) gr.ext (List.prefix_refl _) rv
/-- a built-in of one argument that may be held -/
theorem sim_bi1 {g1 : Tag} {k1 : Nat} {r : List V → Hp → VK → Prop} {f : D → Option D} {t : TE} {m : ME} (ho : Op1 S k1 k (fun x => r [x]) f) (h : SimE S Γ g1 k1 t m) : SimE S Γ .fresh k (tCB r (tCons t tNil)) (e1 f m) := by
  intro own μ ρ s σ H Q R hd
  refine h own μ ρ s σ H _ R (done_bind (α := D) hd fun d s1 own1 μ1 v H1 R1 e1 m1 r1 hd1 => ?_)
  cases q : f d with
  | none => rw [q] at hd1; exact hd1.elim
  | some z =>
    rw [q] at hd1
    exact ho μ1 own1 H1 v d z Q R1.sto.fresh (r1.imp fun a p => Tag.P_nc p) q fun x H3 gr rv => hd1 own1 μ1 x H3 (R1.grow gr) gr.ext (List.prefix_refl _) rv

/-! ### tests -/
theorem sim_test {t : TE} {m : ME} (h : SimE S Γ g k t m) : SimT S Γ (tTest t) (tOfE m) := by
  intro own μ ρ s σ H Q R hd
  refine h own μ ρ s σ H _ R ?_
  unfold tOfE at hd
  cases q : m ρ s with
  | no => rw [q] at hd; exact hd
  | ex e s' => rw [q] at hd; exact hd
  | ok d s1 =>
    rw [q] at hd
    intro own1 μ1 v H1 R1 e1 m1 r1
    cases d with
    | bl b =>
      cases k with
      | zero => cases r1; exact ⟨b, rfl, hd own1 μ1 H1 R1 e1 m1⟩
      | succ k =>
        rcases r1 with ⟨_, r1⟩ | ⟨_, _, _, _, z, _⟩
        · cases r1; exact ⟨b, rfl, hd own1 μ1 H1 R1 e1 m1⟩
        · cases z
    | _ => exact False.elim hd
theorem sim_tB {t : TE} {m : ME} (h : SimE S Γ g k t m) : SimT S Γ (tB t) (tOfE m) := sim_test h
theorem doneT_bind {Q : Bool → Hp → Prop} {own : Own} {μ : List Addr} {ρ : Env} {σ : St} {H : Hp} {r : Res Bool} {f : Bool → Sto → Res Bool} {Q1 : Bool → Hp → Prop}
    (hd : DoneT S Γ own μ ρ σ H Q (r.bind f)) (hn : ∀ b s1 own1 μ1 H1, Rel S.B S.K Γ own1 μ1 ρ s1 σ H1 → Ext own H own1 H1 → μ <+: μ1 → DoneT S Γ own1 μ1 ρ σ H1 Q (f b s1) → Q1 b H1) :
    DoneT S Γ own μ ρ σ H Q1 r := by
  cases r with
  | no => exact hd
  | ex e s' => exact hd
  | ok d s1 => exact fun own1 μ1 H1 R1 e1 m1 => hn d s1 own1 μ1 H1 R1 e1 m1 (DoneT.step e1 m1 hd)
theorem sim_and {t u : TT} {a b : MT} (ha : SimT S Γ t a) (hb : SimT S Γ u b) : SimT S Γ (tAnd t u) (tAndM a b) := by
  intro own μ ρ s σ H Q R hd
  refine ha own μ ρ s σ H _ R (doneT_bind hd fun c s1 own1 μ1 H1 R1 e1 m1 hd1 => ?_)
  cases c with
  | true => exact iteT (hb own1 μ1 ρ s1 σ H1 _ R1 hd1)
  | false => exact iteF (hd1 own1 μ1 H1 R1 .refl (List.prefix_refl _))
theorem sim_or {t u : TT} {a b : MT} (ha : SimT S Γ t a) (hb : SimT S Γ u b) : SimT S Γ (tOr t u) (tOrM a b) := by
  intro own μ ρ s σ H Q R hd
  refine ha own μ ρ s σ H _ R (doneT_bind hd fun c s1 own1 μ1 H1 R1 e1 m1 hd1 => ?_)
  cases c with
  | false => exact iteF (hb own1 μ1 ρ s1 σ H1 _ R1 hd1)
  | true => exact iteT (hd1 own1 μ1 H1 R1 .refl (List.prefix_refl _))
theorem sim_not {t : TT} {a : MT} (ha : SimT S Γ t a) : SimT S Γ (tNot t) (tNotM a) := by
  intro own μ ρ s σ H Q R hd
  exact ha own μ ρ s σ H _ R (doneT_bind hd fun c s1 own1 μ1 H1 R1 e1 m1 hd1 => hd1 own1 μ1 H1 R1 .refl (List.prefix_refl _))
theorem doneTE_bind {Q : VK} {own : Own} {μ : List Addr} {ρ : Env} {σ : St} {H : Hp} {r : Res Bool} {f : Bool → Sto → Res D} {Q1 : Bool → Hp → Prop}
    (hd : Done S Γ g k own μ ρ σ H Q (r.bind f)) (hn : ∀ b s1 own1 μ1 H1, Rel S.B S.K Γ own1 μ1 ρ s1 σ H1 → Ext own H own1 H1 → μ <+: μ1 → Done S Γ g k own1 μ1 ρ σ H1 Q (f b s1) → Q1 b H1) :
    DoneT S Γ own μ ρ σ H Q1 r := by
  cases r with
  | no => exact hd
  | ex e s' => exact hd
  | ok d s1 => exact fun own1 μ1 H1 R1 e1 m1 => hn d s1 own1 μ1 H1 R1 e1 m1 (Done.step e1 m1 hd)
theorem sim_ifE {t : TT} {a b : TE} {c : MT} {ma mb : ME} (hc : SimT S Γ t c) (ha : SimE S Γ g k a ma) (hb : SimE S Γ g k b mb) : SimE S Γ g k (tIf t a b) (eIf c ma mb) := by
  intro own μ ρ s σ H Q R hd
  refine hc own μ ρ s σ H _ R (doneTE_bind hd fun z s1 own1 μ1 H1 R1 e1 m1 hd1 => ?_)
  cases z with
  | true => exact iteT (ha own1 μ1 ρ s1 σ H1 _ R1 hd1)
  | false => exact iteF (hb own1 μ1 ρ s1 σ H1 _ R1 hd1)
theorem sim_andV {t u : TE} {a b : ME} (ha : SimE S Γ g 0 t a) (hb : SimE S Γ g 0 u b) : SimE S Γ g 0 (tAndV t u) (eAnd a b) := by
  intro own μ ρ s σ H Q R hd
  refine ha own μ ρ s σ H _ R (done_bind (α := D) hd fun d s1 own1 μ1 v H1 R1 e1 m1 r1 hd1 => ?_)
  cases r1 with
  | bl c =>
    refine ⟨c, rfl, ?_⟩
    cases c with
    | true => exact iteT (hb own1 μ1 ρ s1 σ H1 _ R1 hd1)
    | false => exact iteF (hd1 own1 μ1 _ H1 R1 .refl (List.prefix_refl _) (Rep.bl _))
  | _ => exact False.elim hd1
theorem sim_orV {t u : TE} {a b : ME} (ha : SimE S Γ g 0 t a) (hb : SimE S Γ g 0 u b) : SimE S Γ g 0 (tOrV t u) (eOr a b) := by
  intro own μ ρ s σ H Q R hd
  refine ha own μ ρ s σ H _ R (done_bind (α := D) hd fun d s1 own1 μ1 v H1 R1 e1 m1 r1 hd1 => ?_)
  cases r1 with
  | bl c =>
    refine ⟨c, rfl, ?_⟩
    cases c with
    | false => exact iteF (hb own1 μ1 ρ s1 σ H1 _ R1 hd1)
    | true => exact iteT (hd1 own1 μ1 _ H1 R1 .refl (List.prefix_refl _) (Rep.bl _))
  | _ => exact False.elim hd1
theorem sim_notV {t : TE} {a : ME} (ha : SimE S Γ g 0 t a) : SimE S Γ g 0 (tNotV t) (eNot a) := by
  intro own μ ρ s σ H Q R hd
  refine ha own μ ρ s σ H _ R (done_bind (α := D) hd fun d s1 own1 μ1 v H1 R1 e1 m1 r1 hd1 => ?_)
  cases r1 with
  | bl c => exact ⟨c, rfl, hd1 own1 μ1 _ H1 R1 .refl (List.prefix_refl _) (Rep.bl _)⟩
  | _ => exact False.elim hd1
end
end M
/-! M3: operations by values. -/
namespace M
open PySem PySem.Spec PyProof.Rows L2

/-! ### plain operations -/
mutual
def D.toPy : D → Option PyData
  | .non => some .none
  | .bl b => some (.bool b)
  | .int i => some (.int i)
  | .str x => some (.str x)
  | .tup ds => (D.toPys ds).map .tuple
  | .lst ds => (D.toPys ds).map .list
  | .ref _ => none
  | .ty _ => none
  | .scr _ => none
  | .set _ => none
def D.toPys : List D → Option (List PyData)
  | [] => some []
  | d :: ds => match D.toPy d, D.toPys ds with
    | some p, some ps => some (p :: ps)
    | _, _ => none
end
def eqD (d e : D) : Option Bool := match D.toPy d, D.toPy e with
  | some p, some q => if SeqAt.shaped p = true ∧ SeqAt.shaped q = true then some (PyData.eqv p q) else none
  | _, _ => none
def oEq (d e : D) : Option D := (eqD d e).map .bl
def oNe (d e : D) : Option D := (eqD d e).map fun b => .bl (!b)
def oI (f : Int → Int → D) (d e : D) : Option D := match d, e with
  | .int i, .int j => some (f i j)
  | _, _ => none
def oIc (c : Int → Int → Bool) (f : Int → Int → D) (d e : D) : Option D := match d, e with
  | .int i, .int j => if c i j then some (f i j) else none
  | _, _ => none
def oSub := oI fun i j => .int (i - j)
def oMul := oIc (fun i j => decide (i.natAbs.log2 + j.natAbs.log2 < 1000000)) fun i j => .int (i * j)
def oMod := oIc (fun _ j => decide (0 < j)) fun i j => .int (i % j)
def oDiv := oIc (fun _ j => decide (0 < j ∧ j.natAbs.log2 < 9000)) fun i j => .int (i / j)
def oPow := oIc (fun i j => decide (0 ≤ j ∧ j ≤ 1000000 ∧ i.natAbs < 2 ^ 64)) fun i j => .int (i ^ j.toNat)
def oShl := oIc (fun i j => decide (0 ≤ j ∧ j ≤ 1000000 ∧ i.natAbs < 2 ^ 64)) fun i j => .int (i * 2 ^ j.toNat)
def oShr := oIc (fun _ j => decide (0 ≤ j)) fun i j => .int (i / 2 ^ j.toNat)
def oLt := oI fun i j => .bl (decide (i < j))
def oLe := oI fun i j => .bl (decide (i ≤ j))
def oGt := oI fun i j => .bl (decide (j < i))
def oGe := oI fun i j => .bl (decide (j ≤ i))
def oAdd : D → D → Option D
  | .int i, .int j => some (.int (i + j))
  | .str x, .str y => if x.length + y.length ≤ sizeLine then some (.str (x ++ y)) else none
  | .tup a, .tup b => if a.length + b.length ≤ sizeLine then some (.tup (a ++ b)) else none
  | .lst a, .lst b => if a.length + b.length ≤ sizeLine then some (.lst (a ++ b)) else none
  | _, _ => none
def isNonD : D → Bool
  | .non => true
  | _ => false
def oIsNone : D → D → Option D
  | d, .non => some (.bl (isNonD d))
  | .bl a, .bl b => some (.bl (decide (a = b)))
  | _, _ => none
def oIsNot : D → D → Option D
  | d, .non => some (.bl (!isNonD d))
  | .bl a, .bl b => some (.bl (!decide (a = b)))
  | _, _ => none
/-- the items of a list or a tuple -/
def seqD : D → Option (List D)
  | .lst ds => some ds
  | .tup ds => some ds
  | _ => none
def flatD : D → Bool
  | .non => true
  | .bl _ => true
  | .int _ => true
  | .str _ => true
  | _ => false
def flatEq : D → D → Bool
  | .non, .non => true
  | .bl a, .bl b => a == b
  | .bl a, .int b => (if a then 1 else 0) == b
  | .int a, .bl b => a == (if b then 1 else 0)
  | .int a, .int b => a == b
  | .str a, .str b => a == b
  | _, _ => false
def inD (x y : D) : Option Bool := match y with
  | .tup ds => if flatD x = true ∧ ds.all flatD = true then some (ds.any fun z => flatEq z x) else
      match D.toPy x, D.toPys ds with
      | some p, some ps => if SeqAt.shaped p = true ∧ SeqAt.shaped (.list ps) = true then some (ps.any fun z => PyData.eqv z p) else none
      | _, _ => none
  | .lst ds => if flatD x = true ∧ ds.all flatD = true then some (ds.any fun z => flatEq z x) else
      match D.toPy x, D.toPys ds with
      | some p, some ps => if SeqAt.shaped p = true ∧ SeqAt.shaped (.list ps) = true then some (ps.any fun z => PyData.eqv z p) else none
      | _, _ => none
  | _ => none
def oIn (x y : D) : Option D := (inD x y).map .bl
def oNotIn (x y : D) : Option D := (inD x y).map fun b => .bl (!b)
def oIx (x i : D) : Option D := match i with
  | .int i => match x with
    | .lst ds => atI ds i
    | .tup ds => atI ds i
    | .scr ns => (atI ns i).map .int
    | .str z => if z.length ≤ sizeLine then (atI z.cps.toList i).map fun c => .str ⟨#[c]⟩ else none
    | _ => none
  | _ => none
def oLen : D → Option D
  | .lst ds => some (.int ds.length)
  | .tup ds => some (.int ds.length)
  | .scr ns => some (.int ns.length)
  | .str z => if z.length ≤ sizeLine then some (.int z.length) else none
  | _ => none
def oNeg : D → Option D
  | .int i => some (.int (-i))
  | _ => none
def oAbs : List D → Option D
  | [.int i] => some (.int (if i < 0 then -i else i))
  | _ => none
def oMax2 : List D → Option D
  | [.int i, .int j] => some (.int (if j > i then j else i))
  | _ => none
def oMin2 : List D → Option D
  | [.int i, .int j] => some (.int (if j < i then j else i))
  | _ => none
def oInt : List D → Option D
  | [.int i] => some (.int i)
  | [.bl b] => some (.int (if b then 1 else 0))
  | _ => none
def oTuple : D → Option D
  | .lst ds => some (.tup ds)
  | .tup ds => some (.tup ds)
  | _ => none
def oList : D → Option D
  | .lst ds => some (.lst ds)
  | .tup ds => some (.lst ds)
  | _ => none
def tyName : D → Option String
  | .non => some "NoneType"
  | .bl _ => some "bool"
  | .int _ => some "int"
  | .str _ => some "str"
  | .tup _ => some "tuple"
  | .lst _ => some "list"
  | _ => none
def subTy (a b : String) : Bool := a == b || (a == "bool" && b == "int")
def tyOk (b : String) : Bool := b == "int" || b == "bool" || b == "str" || b == "tuple" || b == "list" || b == "dict"
def oIsInst : List D → Option D
  | [x, .ty b] => match tyName x with
    | some a => if tyOk b then some (.bl (subTy a b)) else none
    | none => none
  | _ => none
def blsD : List D → Option (List Bool)
  | [] => some []
  | .bl b :: ds => (blsD ds).map (b :: ·)
  | _ => none
def intsD : List D → Option (List Int)
  | [] => some []
  | .int b :: ds => (intsD ds).map (b :: ·)
  | _ => none
def oAll : D → Option D
  | .lst ds => (blsD ds).map fun bs => .bl (bs.all id)
  | _ => none
def oAny : D → Option D
  | .lst ds => (blsD ds).map fun bs => .bl (bs.any id)
  | _ => none
def oSum : D → Option D
  | .lst ds => (intsD ds).map fun ns => .int ns.sum
  | _ => none
/-- the items from lo on, ahead of hi -/
def cutG {α : Type} (xs : List α) (lo hi : Option Int) : List α := (xs.drop (HT.sIx xs.length 0 lo)).take (HT.sIx xs.length xs.length hi - HT.sIx xs.length 0 lo)
def oCut (x : D) (lo hi : Option Int) : Option D := match x with
  | .lst ds => some (.lst (cutG ds lo hi))
  | .tup ds => some (.tup (cutG ds lo hi))
  | _ => none

/-! ### what holds of a held value -/
section
variable {BB : Bd} {K : PySem.W.Frag} {μ : List Addr} {own : Own} {H : Hp} {P : Addr → Prop}
theorem RepK.rep {k : Nat} {d : D} {v : V} (h : RepK K μ own H k P d v) (n : isL d = false) : Rep K μ own H d v := by
  cases k with
  | zero => exact h
  | succ k =>
    rcases h with ⟨_, h⟩ | ⟨_, _, _, _, e, _⟩
    · exact h
    · subst e; cases n
theorem RepK.list {k : Nat} (hk : k ≤ 1) {ds : List D} {v : V} (h : RepK K μ own H k P (.lst ds) v) : ∃ a vs, v = .ref a ∧ H a = some (.lst vs) ∧ Reps K μ own H ds vs ∧ ds.length ≤ sizeLine := by
  cases k with
  | zero =>
    cases h with
    | lst z h r => exact ⟨_, _, rfl, h.1, r, z⟩
  | succ k =>
    have : k = 0 := by omega
    subst this
    rcases h with ⟨n, _⟩ | ⟨a, vs, es, e, e2, _, hh, z, r, _⟩
    · cases n
    · cases e2
      exact ⟨a, vs, e, hh, All2.reps r, z⟩
theorem RepK.of {k : Nat} {d : D} {v : V} (h : Rep K μ own H d v) (n : isL d = false) : RepK K μ own H k P d v := by
  cases k with
  | zero => exact h
  | succ k => exact .inl ⟨n, h⟩
theorem RepK.newL {k : Nat} {ds : List D} {vs : List V} {a : Addr} (e : H a = some (.lst vs)) (p : P a) (r : Reps K μ own H ds vs) (z : ds.length ≤ sizeLine) : RepK K μ own H 1 P (.lst ds) (.ref a) :=
  .inr ⟨a, vs, ds, rfl, rfl, p, e, z, r.all2, fun z => absurd rfl z⟩
mutual
theorem Rep.dp : ∀ {d : D} {v : V} {p : PyData}, Rep K μ own H d v → D.toPy d = some p → Dp K H v p
  | _, _, _, .non, e => by simp only [D.toPy, Option.some.injEq] at e; subst e; exact .non
  | _, _, _, .bl b, e => by simp only [D.toPy, Option.some.injEq] at e; subst e; exact .bl b
  | _, _, _, .int b, e => by simp only [D.toPy, Option.some.injEq] at e; subst e; exact .int b
  | _, _, _, .str b, e => by simp only [D.toPy, Option.some.injEq] at e; subst e; exact .str b
  | _, _, _, .ty b, e => by simp [D.toPy] at e
  | _, _, _, .ref b, e => by simp [D.toPy] at e
  | _, _, _, .scr b, e => by simp [D.toPy] at e
  | _, _, _, .set .., e => by simp [D.toPy] at e
  | _, _, _, .tup _ h r, e => by
    simp only [D.toPy, Option.map_eq_some_iff] at e
    obtain ⟨ps, e1, e2⟩ := e
    subst e2
    exact .tup h (Reps.dp r e1)
  | _, _, _, .lst _ h r, e => by
    simp only [D.toPy, Option.map_eq_some_iff] at e
    obtain ⟨ps, e1, e2⟩ := e
    subst e2
    exact .lst (SqL.of h.1) (Reps.dp r e1)
theorem Reps.dp : ∀ {ds : List D} {vs : List V} {ps : List PyData}, Reps K μ own H ds vs → D.toPys ds = some ps → DpAll K H vs ps
  | _, _, _, .nil, e => by simp only [D.toPys, Option.some.injEq] at e; subst e; exact .nil
  | _, _, _, .cons (d := d) (ds := ds) r t, e => by
    cases q1 : D.toPy d with
    | none => simp [D.toPys, q1] at e
    | some p =>
      cases q2 : D.toPys ds with
      | none => simp [D.toPys, q1, q2] at e
      | some ps =>
        simp only [D.toPys, q1, q2, Option.some.injEq] at e
        subst e
        exact .cons (Rep.dp r q1) (Reps.dp t q2)
end
theorem All2.dp {F : D → V → Prop} (hF : ∀ d v p, F d v → D.toPy d = some p → Dp K H v p) : ∀ {ds : List D} {vs : List V} {ps : List PyData}, All2 F ds vs → D.toPys ds = some ps → DpAll K H vs ps
  | _, _, _, .nil, e => by simp only [D.toPys, Option.some.injEq] at e; subst e; exact .nil
  | _, _, _, .cons (a := d) (as := ds) r t, e => by
    cases q1 : D.toPy d with
    | none => simp [D.toPys, q1] at e
    | some p =>
      cases q2 : D.toPys ds with
      | none => simp [D.toPys, q1, q2] at e
      | some ps =>
        simp only [D.toPys, q1, q2, Option.some.injEq] at e
        subst e
        exact .cons (hF _ _ _ r q1) (All2.dp hF t q2)
theorem RepK.dp : ∀ {k : Nat} {d : D} {v : V} {p : PyData}, RepK K μ own H k P d v → D.toPy d = some p → Dp K H v p
  | 0, _, _, _, h, e => Rep.dp h e
  | k + 1, _, _, _, .inl ⟨_, h⟩, e => Rep.dp h e
  | k + 1, _, _, _, .inr ⟨a, vs, ds, e1, e2, _, hh, _, r, _⟩, e => by
    subst e1 e2
    simp only [D.toPy, Option.map_eq_some_iff] at e
    obtain ⟨ps, e1, e2⟩ := e
    subst e2
    exact .lst (SqL.of hh) (All2.dp (fun d v p => RepK.dp) r e1)
theorem Rep.flat {d : D} {v : V} (h : Rep K μ own H d v) (f : flatD d = true) : flatV v = true := by
  cases h <;> first | rfl | cases f
theorem Rep.flatEq {d e : D} {v u : V} (h : Rep K μ own H d v) (h' : Rep K μ own H e u) (f : flatD d = true) (f' : flatD e = true) : eqV v u = flatEq d e := by
  cases h <;> first | (cases f; done) | (cases h' <;> first | rfl | (cases f'; done))
theorem Reps.flat : ∀ {ds : List D} {vs : List V}, Reps K μ own H ds vs → ds.all flatD = true → vs.all flatV = true
  | _, _, .nil, _ => rfl
  | _, _, .cons r t, f => by
    rw [List.all_cons, Bool.and_eq_true] at f ⊢
    exact ⟨r.flat f.1, Reps.flat t f.2⟩
theorem Reps.flatIn {x : D} {u : V} (hx : Rep K μ own H x u) (fx : flatD x = true) : ∀ {ds : List D} {vs : List V}, Reps K μ own H ds vs → ds.all flatD = true → inV u vs = ds.any fun z => flatEq z x
  | _, _, .nil, _ => rfl
  | _, _, .cons r t, f => by
    rw [List.all_cons, Bool.and_eq_true] at f
    have ih := Reps.flatIn hx fx t f.2
    unfold inV at ih ⊢
    rw [List.any_cons, List.any_cons, ih, Rep.flatEq r hx f.1 fx]
theorem Reps.bls : ∀ {ds : List D} {vs : List V} {bs : List Bool}, Reps K μ own H ds vs → blsD ds = some bs → vs = bs.map V.bl
  | _, _, _, .nil, e => by simp only [blsD, Option.some.injEq] at e; subst e; rfl
  | _, _, _, .cons (d := d) r t, e => by
    cases r with
    | bl b =>
      simp only [blsD, Option.map_eq_some_iff] at e
      obtain ⟨bs, e1, e2⟩ := e
      subst e2
      rw [Reps.bls t e1]; rfl
    | _ => simp [blsD] at e
theorem Reps.intsD : ∀ {ds : List D} {vs : List V} {bs : List Int}, Reps K μ own H ds vs → intsD ds = some bs → vs = bs.map V.int
  | _, _, _, .nil, e => by simp only [M.intsD, Option.some.injEq] at e; subst e; rfl
  | _, _, _, .cons (d := d) r t, e => by
    cases r with
    | int b =>
      simp only [M.intsD, Option.map_eq_some_iff] at e
      obtain ⟨bs, e1, e2⟩ := e
      subst e2
      rw [Reps.intsD t e1]; rfl
    | _ => simp [M.intsD] at e
theorem Reps.at {ds : List D} {vs : List V} {i : Int} {d : D} (h : Reps K μ own H ds vs) (e : atI ds i = some d) : ∃ v, atI vs i = some v ∧ Rep K μ own H d v := by
  unfold atI at e ⊢
  rw [← h.length]
  cases q : ixN ds.length i with
  | none => rw [q] at e; cases e
  | some j =>
    rw [q] at e
    exact h.get e
theorem Reps.cut {ds : List D} {vs : List V} (lo hi : Option Int) (h : Reps K μ own H ds vs) : Reps K μ own H (cutG ds lo hi) (cutV vs lo hi) := by
  unfold cutG cutV
  rw [← h.length]
  exact (h.drop _).take _
end

section
variable {S : Srd} {X : Cx} {k k1 k2 : Nat}
/-! ### the rules of the hand layer together -/
theorem OpR.or {f : Value → Value → Sem Value} {r r' : R2} (h : OpR X f r) (h' : OpR X f r') : OpR X f (fun x y H Q => r x y H Q ∨ r' x y H Q) := by
  intro pins s σ H x y v u Q I rx ry q
  rcases q with q | q
  · exact h pins s σ H x y v u Q I rx ry q
  · exact h' pins s σ H x y v u Q I rx ry q
def rStrCat : R2 := fun x y H Q => ∃ i j, x = .str i ∧ y = .str j ∧ i.length + j.length ≤ sizeLine ∧ Q (.str (i ++ j)) H
def rAddG (K : PySem.W.Frag) : R2 := fun x y H Q => (rI0 (fun i j => .int (i + j)) x y H Q ∨ rCatA K x y H Q) ∨ (rCat x y H Q ∨ rStrCat x y H Q)
theorem op_addG : OpR X (binaryOp .Add) (rAddG X.K) := (OpR.or op_add op_catA).or (OpR.or op_cat op_add_str)
def rIsN : R2 := fun x y H Q => y = .non ∧ Q (.bl (decide (x = .non))) H
def rIsNotN : R2 := fun x y H Q => y = .non ∧ Q (.bl (!decide (x = .non))) H
def rIsG : R2 := fun x y H Q => rIsN x y H Q ∨ rIsB x y H Q
def rIsNotG : R2 := fun x y H Q => rIsNotN x y H Q ∨ rNotB x y H Q
theorem op_isG : OpR X (compareOp .Is) rIsG := OpR.or op_isN op_isBl
theorem op_isNotG : OpR X (compareOp .IsNot) rIsNotG := OpR.or op_notN op_notBl
def rInDT (K : PySem.W.Frag) : R2 := fun x y H Q => ∃ d ds, Dp K H x d ∧ Dp K H y (.tuple ds) ∧ SeqAt.shaped d = true ∧ SeqAt.shaped (.list ds) = true ∧ Q (.bl (ds.any fun z => PyData.eqv z d)) H
def rNotInDT (K : PySem.W.Frag) : R2 := fun x y H Q => ∃ d ds, Dp K H x d ∧ Dp K H y (.tuple ds) ∧ SeqAt.shaped d = true ∧ SeqAt.shaped (.list ds) = true ∧ Q (.bl (!ds.any fun z => PyData.eqv z d)) H
theorem op_inDT (hu : X.A.units + 65 < cLine) : OpR X (compareOp .In) (rInDT X.K) := by
  intro pins s σ H x y v u Q I rx ry h
  obtain ⟨d, ds, hd, he, sd, se, q⟩ := h
  obtain ⟨as, r1⟩ := Dp.reads I d x v hd rx
  obtain ⟨bs, r2⟩ := Dp.reads I (.tuple ds) y u he ry
  exact SeqAt.in_tuple_reads r2 r1 (SeqAt.canLay_of_shaped se) (SeqAt.canLay_of_shaped sd) (room_in_shaped sd hu) ⟨.bl _, H, I, rfl, q⟩
theorem op_notInDT (hu : X.A.units + 65 < cLine) : OpR X (compareOp .NotIn) (rNotInDT X.K) := by
  intro pins s σ H x y v u Q I rx ry h
  obtain ⟨d, ds, hd, he, sd, se, q⟩ := h
  obtain ⟨as, r1⟩ := Dp.reads I d x v hd rx
  obtain ⟨bs, r2⟩ := Dp.reads I (.tuple ds) y u he ry
  exact SeqAt.notIn_tuple_reads r2 r1 (SeqAt.canLay_of_shaped se) (SeqAt.canLay_of_shaped sd) (room_in_shaped sd hu) ⟨.bl _, H, I, rfl, q⟩
def rInG (K : PySem.W.Frag) : R2 := fun x y H Q => (rIn K false x y H Q ∨ rInD K x y H Q) ∨ rInDT K x y H Q
def rNotInG (K : PySem.W.Frag) : R2 := fun x y H Q => (rIn K true x y H Q ∨ rNotInD K x y H Q) ∨ rNotInDT K x y H Q
theorem op_inG (hu : X.A.units + 65 < cLine) : OpR X (compareOp .In) (rInG X.K) := (OpR.or op_in_seq (op_inD hu)).or (op_inDT hu)
theorem op_notInG (hu : X.A.units + 65 < cLine) : OpR X (compareOp .NotIn) (rNotInG X.K) := (OpR.or op_notIn_seq (op_notInD hu)).or (op_notInDT hu)
def rLenG (K : PySem.W.Frag) : List V → Hp → VK → Prop := fun xs H Q => (∃ p ys, xs = [.ref p] ∧ (SqL K H p ys ∨ SqT K H p ys) ∧ Q (.int ys.length) H) ∨ ∃ z, xs = [.str z] ∧ z.length ≤ sizeLine ∧ Q (.int z.length) H
theorem call_lenG : CallR X (.builtin "len") (rLenG X.K) := CallR.or call_len_seq call_len_str

/-! ### they do what the plain ones do -/
theorem o_eq : Op2 S k1 k2 k (rEqD S.K) oEq := fun μ own H x y d1 d2 d Q fr h1 h2 e q => by
  unfold oEq eqD at e
  cases q1 : D.toPy d1 with
  | none => simp [q1] at e
  | some p1 =>
    cases q2 : D.toPy d2 with
    | none => simp [q1, q2] at e
    | some p2 =>
      simp only [q1, q2] at e
      by_cases c : SeqAt.shaped p1 = true ∧ SeqAt.shaped p2 = true
      · rw [if_pos c] at e
        simp only [Option.map_some, Option.some.injEq] at e
        subst e
        exact ⟨p1, p2, h1.dp q1, h2.dp q2, c.1, c.2, q _ _ (Grow.refl H) (RepK.of (.bl _) rfl)⟩
      · rw [if_neg c] at e; cases e
theorem o_ne : Op2 S k1 k2 k (rNeD S.K) oNe := fun μ own H x y d1 d2 d Q fr h1 h2 e q => by
  unfold oNe eqD at e
  cases q1 : D.toPy d1 with
  | none => simp [q1] at e
  | some p1 =>
    cases q2 : D.toPy d2 with
    | none => simp [q1, q2] at e
    | some p2 =>
      simp only [q1, q2] at e
      by_cases c : SeqAt.shaped p1 = true ∧ SeqAt.shaped p2 = true
      · rw [if_pos c] at e
        simp only [Option.map_some, Option.some.injEq] at e
        subst e
        exact ⟨p1, p2, h1.dp q1, h2.dp q2, c.1, c.2, q _ _ (Grow.refl H) (RepK.of (.bl _) rfl)⟩
      · rw [if_neg c] at e; cases e
theorem op2_int {r : R2} {c : Int → Int → Prop} {g : Int → Int → V} {f : D → D → Option D} {gd : Int → Int → D} (hr : ∀ i j H Q, c i j → Q (g i j) H → r (.int i) (.int j) H Q)
    (hf : ∀ d e z, f d e = some z → ∃ i j, d = .int i ∧ e = .int j ∧ c i j ∧ z = gd i j) (hg : ∀ i j, (∃ n, g i j = .int n ∧ gd i j = .int n) ∨ ∃ b, g i j = .bl b ∧ gd i j = .bl b) : Op2 S k1 k2 k r f := fun μ own H x y d1 d2 d Q fr h1 h2 e q => by
  obtain ⟨i, j, rfl, rfl, hc, rfl⟩ := hf _ _ _ e
  have r1 := h1.rep rfl
  have r2 := h2.rep rfl
  cases r1
  cases r2
  refine hr i j H Q hc (q _ _ (Grow.refl H) ?_)
  rcases hg i j with ⟨n, e1, e2⟩ | ⟨b, e1, e2⟩
  · rw [e1, e2]; exact RepK.of (.int n) rfl
  · rw [e1, e2]; exact RepK.of (.bl b) rfl
theorem oI_some {f : Int → Int → D} {d e z : D} (h : oI f d e = some z) : ∃ i j, d = .int i ∧ e = .int j ∧ True ∧ z = f i j := by
  unfold oI at h
  split at h
  · rename_i i j; exact ⟨i, j, rfl, rfl, trivial, (Option.some.inj h).symm⟩
  · cases h
theorem oIc_some {c : Int → Int → Bool} {f : Int → Int → D} {d e z : D} (h : oIc c f d e = some z) : ∃ i j, d = .int i ∧ e = .int j ∧ c i j = true ∧ z = f i j := by
  unfold oIc at h
  split at h
  · rename_i i j
    split at h
    · rename_i hc; exact ⟨i, j, rfl, rfl, hc, (Option.some.inj h).symm⟩
    · cases h
  · cases h
theorem o_sub : Op2 S k1 k2 k (rI0 fun i j => .int (i - j)) oSub := op2_int (c := fun _ _ => True) (fun i j H Q _ q => ⟨i, j, rfl, rfl, q⟩) (fun d e z h => oI_some h) fun i j => .inl ⟨_, rfl, rfl⟩
theorem o_lt : Op2 S k1 k2 k (rI0 fun i j => .bl (decide (i < j))) oLt := op2_int (c := fun _ _ => True) (fun i j H Q _ q => ⟨i, j, rfl, rfl, q⟩) (fun d e z h => oI_some h) fun i j => .inr ⟨_, rfl, rfl⟩
theorem o_le : Op2 S k1 k2 k (rI0 fun i j => .bl (decide (i ≤ j))) oLe := op2_int (c := fun _ _ => True) (fun i j H Q _ q => ⟨i, j, rfl, rfl, q⟩) (fun d e z h => oI_some h) fun i j => .inr ⟨_, rfl, rfl⟩
theorem o_gt : Op2 S k1 k2 k (rI0 fun i j => .bl (decide (j < i))) oGt := op2_int (c := fun _ _ => True) (fun i j H Q _ q => ⟨i, j, rfl, rfl, q⟩) (fun d e z h => oI_some h) fun i j => .inr ⟨_, rfl, rfl⟩
theorem o_ge : Op2 S k1 k2 k (rI0 fun i j => .bl (decide (j ≤ i))) oGe := op2_int (c := fun _ _ => True) (fun i j H Q _ q => ⟨i, j, rfl, rfl, q⟩) (fun d e z h => oI_some h) fun i j => .inr ⟨_, rfl, rfl⟩
theorem o_mul : Op2 S k1 k2 k (rI CMulW fun i j => .int (i * j)) oMul := op2_int (c := fun i j => CMulW i j) (fun i j H Q c q => ⟨i, j, rfl, rfl, c, q⟩)
  (fun d e z h => let ⟨i, j, a, b, c, x⟩ := oIc_some h; ⟨i, j, a, b, (show i.natAbs.log2 + j.natAbs.log2 < 1000000 from of_decide_eq_true c), x⟩) fun i j => .inl ⟨_, rfl, rfl⟩
theorem o_mod : Op2 S k1 k2 k (rI (fun _ j => 0 < j) fun i j => .int (i % j)) oMod := op2_int (c := fun _ j => 0 < j) (fun i j H Q c q => ⟨i, j, rfl, rfl, c, q⟩)
  (fun d e z h => let ⟨i, j, a, b, c, x⟩ := oIc_some h; ⟨i, j, a, b, of_decide_eq_true c, x⟩) fun i j => .inl ⟨_, rfl, rfl⟩
theorem o_div : Op2 S k1 k2 k (rI CDivW fun i j => .int (i / j)) oDiv := op2_int (c := fun i j => CDivW i j) (fun i j H Q c q => ⟨i, j, rfl, rfl, c, q⟩)
  (fun d e z h => let ⟨i, j, a, b, c, x⟩ := oIc_some h; ⟨i, j, a, b, (show 0 < j ∧ j.natAbs.log2 < 9000 from of_decide_eq_true c), x⟩) fun i j => .inl ⟨_, rfl, rfl⟩
theorem o_pow : Op2 S k1 k2 k (rI CPow fun i j => .int (i ^ j.toNat)) oPow := op2_int (c := fun i j => CPow i j) (fun i j H Q c q => ⟨i, j, rfl, rfl, c, q⟩)
  (fun d e z h => let ⟨i, j, a, b, c, x⟩ := oIc_some h; ⟨i, j, a, b, (show 0 ≤ j ∧ j ≤ 1000000 ∧ i.natAbs < 2 ^ 64 from of_decide_eq_true c), x⟩) fun i j => .inl ⟨_, rfl, rfl⟩
theorem o_shl : Op2 S k1 k2 k (rI CPow fun i j => .int (i * 2 ^ j.toNat)) oShl := op2_int (c := fun i j => CPow i j) (fun i j H Q c q => ⟨i, j, rfl, rfl, c, q⟩)
  (fun d e z h => let ⟨i, j, a, b, c, x⟩ := oIc_some h; ⟨i, j, a, b, (show 0 ≤ j ∧ j ≤ 1000000 ∧ i.natAbs < 2 ^ 64 from of_decide_eq_true c), x⟩) fun i j => .inl ⟨_, rfl, rfl⟩
theorem o_shr : Op2 S k1 k2 k (rI (fun _ j => 0 ≤ j) fun i j => .int (i / 2 ^ j.toNat)) oShr := op2_int (c := fun _ j => 0 ≤ j) (fun i j H Q c q => ⟨i, j, rfl, rfl, c, q⟩)
  (fun d e z h => let ⟨i, j, a, b, c, x⟩ := oIc_some h; ⟨i, j, a, b, of_decide_eq_true c, x⟩) fun i j => .inl ⟨_, rfl, rfl⟩
theorem o_add (h1 : k1 ≤ 1) (h2 : k2 ≤ 1) : Op2 S k1 k2 1 (rAddG S.K) oAdd := fun μ own H x y d1 d2 d Q fr r1 r2 e q => by
  unfold oAdd at e
  split at e
  · rename_i i j
    cases e
    have q1 := r1.rep rfl
    have q2 := r2.rep rfl
    cases q1; cases q2
    exact .inl (.inl ⟨i, j, rfl, rfl, q _ _ (Grow.refl H) (RepK.of (.int _) rfl)⟩)
  · rename_i i j
    split at e
    · rename_i hz
      cases e
      have q1 := r1.rep rfl
      have q2 := r2.rep rfl
      cases q1; cases q2
      exact .inr (.inr ⟨i, j, rfl, rfl, hz, q _ _ (Grow.refl H) (RepK.of (.str _) rfl)⟩)
    · cases e
  · rename_i a b
    split at e
    · rename_i hz
      cases e
      have q1 := r1.rep rfl
      have q2 := r2.rep rfl
      cases q1 with
      | @tup p vs _ z1 s1 t1 =>
      cases q2 with
      | @tup p2 vs2 _ z2 s2 t2 =>
      refine .inl (.inr ⟨p, p2, vs, vs2, rfl, rfl, s1, s2, ?_, fun z => ?_, fun _ z => ?_, fun _ _ l hl => ?_⟩)
      · rw [← t1.length, ← t2.length]; exact hz
      · subst z
        have : a = [] := List.eq_nil_of_length_eq_zero t1.length
        subst this
        exact q _ _ (Grow.refl H) (RepK.of (.tup z2 s2 t2) rfl)
      · subst z
        have : b = [] := List.eq_nil_of_length_eq_zero t2.length
        subst this
        rw [List.append_nil] at q
        exact q _ _ (Grow.refl H) (RepK.of (.tup z1 s1 t1) rfl)
      · exact q _ _ (Grow.upd hl) (RepK.of (.tup (by rw [List.length_append]; exact hz) (SqT.of upd_same) ((t1.append t2).keep (Grow.upd hl).keeps (List.prefix_refl _))) rfl)
    · cases e
  · rename_i a b
    split at e
    · rename_i hz
      cases e
      obtain ⟨p, vs, rfl, s1, t1, z1⟩ := r1.list h1
      obtain ⟨p2, vs2, rfl, s2, t2, z2⟩ := r2.list h2
      refine .inr (.inl ⟨p, p2, vs, vs2, rfl, rfl, s1, s2, ?_, fun l hl => ?_⟩)
      · rw [← t1.length, ← t2.length]; exact hz
      · exact q _ _ (Grow.upd hl) (RepK.newL (k := 0) upd_same ⟨fr l hl, hl⟩ ((t1.append t2).keep (Grow.upd hl).keeps (List.prefix_refl _)) (by rw [List.length_append]; exact hz))
    · cases e
  · cases e
theorem Rep.isNon {K : PySem.W.Frag} {μ : List Addr} {own : Own} {H : Hp} {d : D} {v : V} (h : Rep K μ own H d v) : decide (v = .non) = isNonD d := by
  cases h <;> rfl
theorem RepK.isNon {K : PySem.W.Frag} {μ : List Addr} {own : Own} {H : Hp} {P : Addr → Prop} {d : D} {v : V} : ∀ {k : Nat}, RepK K μ own H k P d v → decide (v = .non) = isNonD d
  | 0, h => Rep.isNon h
  | k + 1, .inl ⟨_, h⟩ => Rep.isNon h
  | k + 1, .inr ⟨_, _, _, e1, e2, _⟩ => by subst e1 e2; rfl
theorem o_is : Op2 S k1 k2 k rIsG oIsNone := fun μ own H x y d1 d2 d Q fr r1 r2 e q => by
  unfold oIsNone at e
  split at e
  · cases e
    have q2 := r2.rep rfl
    cases q2
    refine .inl ⟨rfl, ?_⟩
    rw [r1.isNon]
    exact q _ _ (Grow.refl H) (RepK.of (.bl _) rfl)
  · rename_i a b
    cases e
    have q1 := r1.rep rfl
    have q2 := r2.rep rfl
    cases q1; cases q2
    exact .inr ⟨a, b, rfl, rfl, q _ _ (Grow.refl H) (RepK.of (.bl _) rfl)⟩
  · cases e
theorem o_isNot : Op2 S k1 k2 k rIsNotG oIsNot := fun μ own H x y d1 d2 d Q fr r1 r2 e q => by
  unfold oIsNot at e
  split at e
  · cases e
    have q2 := r2.rep rfl
    cases q2
    refine .inl ⟨rfl, ?_⟩
    rw [r1.isNon]
    exact q _ _ (Grow.refl H) (RepK.of (.bl _) rfl)
  · rename_i a b
    cases e
    have q1 := r1.rep rfl
    have q2 := r2.rep rfl
    cases q1; cases q2
    exact .inr ⟨a, b, rfl, rfl, q _ _ (Grow.refl H) (RepK.of (.bl _) rfl)⟩
  · cases e
theorem o_inB {b : Bool} (hk : k2 ≤ 1) {μ : List Addr} {own : Own} {H : Hp} {x y : V} {d1 d2 : D} {P P' : Addr → Prop} (r1 : RepK S.K μ own H k1 P d1 x) (r2 : RepK S.K μ own H k2 P' d2 y) (e : inD d1 d2 = some b) :
    ((∃ p xs, y = .ref p ∧ (SqL S.K H p xs ∨ SqT S.K H p xs) ∧ flatV x = true ∧ xs.all flatV = true ∧ inV x xs = b) ∨
      (∃ d ds, Dp S.K H x d ∧ Dp S.K H y (.list ds) ∧ SeqAt.shaped d = true ∧ SeqAt.shaped (.list ds) = true ∧ (ds.any fun z => PyData.eqv z d) = b) ∨
      ∃ d ds, Dp S.K H x d ∧ Dp S.K H y (.tuple ds) ∧ SeqAt.shaped d = true ∧ SeqAt.shaped (.list ds) = true ∧ (ds.any fun z => PyData.eqv z d) = b) := by
  unfold inD at e
  split at e
  · rename_i ds
    split at e
    · rename_i c
      cases e
      have q2 := r2.rep rfl
      cases q2 with
      | @tup a vs _ z s t =>
      have nl : isL d1 = false := by cases d1 <;> first | rfl | cases c.1
      have q1 := r1.rep nl
      exact .inl ⟨a, vs, rfl, .inr s, q1.flat c.1, t.flat c.2, t.flatIn q1 c.1 c.2⟩
    · split at e
      · rename_i p ps e1 e2
        split at e
        · rename_i c
          cases e
          have q2 := r2.rep rfl
          cases q2 with
          | @tup a vs _ z s t => exact .inr (.inr ⟨p, ps, r1.dp e1, .tup s (t.dp e2), c.1, c.2, rfl⟩)
        · cases e
      · cases e
  · rename_i ds
    obtain ⟨a, vs, rfl, s, t, z⟩ := r2.list hk
    split at e
    · rename_i c
      cases e
      have nl : isL d1 = false := by cases d1 <;> first | rfl | cases c.1
      have q1 := r1.rep nl
      exact .inl ⟨a, vs, rfl, .inl (SqL.of s), q1.flat c.1, t.flat c.2, t.flatIn q1 c.1 c.2⟩
    · split at e
      · rename_i p ps e1 e2
        split at e
        · rename_i c
          cases e
          exact .inr (.inl ⟨p, ps, r1.dp e1, .lst (SqL.of s) (t.dp e2), c.1, c.2, rfl⟩)
        · cases e
      · cases e
  · cases e
theorem o_in (hk : k2 ≤ 1) : Op2 S k1 k2 k (rInG S.K) oIn := fun μ own H x y d1 d2 d Q fr r1 r2 e q => by
  unfold oIn at e
  obtain ⟨b, e1, e2⟩ := Option.map_eq_some_iff.mp e
  subst e2
  have fin := q _ _ (Grow.refl H) (RepK.of (.bl b) rfl)
  rcases o_inB hk r1 r2 e1 with ⟨p, xs, e, h1, h2, h3, h4⟩ | ⟨d, ds, h1, h2, h3, h4, h5⟩ | ⟨d, ds, h1, h2, h3, h4, h5⟩
  · exact .inl (.inl ⟨p, xs, e, h1, h2, h3, by rw [h4]; exact fin⟩)
  · exact .inl (.inr ⟨d, ds, h1, h2, h3, h4, by rw [h5]; exact fin⟩)
  · exact .inr ⟨d, ds, h1, h2, h3, h4, by rw [h5]; exact fin⟩
theorem o_notIn (hk : k2 ≤ 1) : Op2 S k1 k2 k (rNotInG S.K) oNotIn := fun μ own H x y d1 d2 d Q fr r1 r2 e q => by
  unfold oNotIn at e
  obtain ⟨b, e1, e2⟩ := Option.map_eq_some_iff.mp e
  subst e2
  have fin := q _ _ (Grow.refl H) (RepK.of (.bl (!b)) rfl)
  rcases o_inB hk r1 r2 e1 with ⟨p, xs, e, h1, h2, h3, h4⟩ | ⟨d, ds, h1, h2, h3, h4, h5⟩ | ⟨d, ds, h1, h2, h3, h4, h5⟩
  · exact .inl (.inl ⟨p, xs, e, h1, h2, h3, by show Q (.bl (!inV x xs)) H; rw [h4]; exact fin⟩)
  · exact .inl (.inr ⟨d, ds, h1, h2, h3, h4, by rw [h5]; exact fin⟩)
  · exact .inr ⟨d, ds, h1, h2, h3, h4, by rw [h5]; exact fin⟩
theorem o_ix (hk : k1 ≤ 1) : Op2 S k1 k2 0 (rIx S.K) oIx := fun μ own H x y d1 d2 d Q fr r1 r2 e q => by
  unfold oIx at e
  split at e
  · rename_i i
    have q2 := r2.rep rfl
    cases q2
    split at e
    · rename_i ds
      obtain ⟨a, vs, rfl, s, t, z⟩ := r1.list hk
      obtain ⟨v, h1, h2⟩ := t.at e
      exact .inl ⟨a, vs, i, v, rfl, rfl, SqL.of s, h1, q _ _ (Grow.refl H) h2⟩
    · have q1 := r1.rep rfl
      cases q1 with
      | @tup a vs _ z s t =>
      obtain ⟨v, h1, h2⟩ := t.at e
      exact .inr (.inl ⟨a, vs, i, v, rfl, rfl, s, h1, q _ _ (Grow.refl H) h2⟩)
    · rename_i ns
      have q1 := r1.rep rfl
      cases q1 with
      | @scr a _ s =>
      obtain ⟨n, e1, e2⟩ := Option.map_eq_some_iff.mp e
      subst e2
      refine .inl ⟨a, ns.map V.int, i, .int n, rfl, rfl, s.sq, ?_, q _ _ (Grow.refl H) (Rep.int n)⟩
      unfold atI at e1 ⊢
      rw [List.length_map]
      cases z : ixN ns.length i with
      | none => rw [z] at e1; cases e1
      | some j =>
        rw [z] at e1
        show (ns.map V.int)[j]? = _
        rw [List.getElem?_map]
        have e1' : ns[j]? = some n := e1
        rw [e1']; rfl
    · rename_i z
      split at e
      · rename_i hz
        have q1 := r1.rep rfl
        cases q1
        obtain ⟨c, e1, e2⟩ := Option.map_eq_some_iff.mp e
        subst e2
        exact .inr (.inr ⟨z, i, c, rfl, rfl, hz, e1, q _ _ (Grow.refl H) (Rep.str _)⟩)
      · cases e
    · cases e
  · cases e
theorem o_len (hk : k1 ≤ 1) : Op1 S k1 k (fun x => rLenG S.K [x]) oLen := fun μ own H x d1 d Q fr r1 e q => by
  unfold oLen at e
  split at e
  · rename_i ds
    cases e
    obtain ⟨a, vs, rfl, s, t, z⟩ := r1.list hk
    rw [t.length] at q
    exact .inl ⟨a, vs, rfl, .inl (SqL.of s), q _ _ (Grow.refl H) (RepK.of (.int _) rfl)⟩
  · rename_i ds
    cases e
    have q1 := r1.rep rfl
    cases q1 with
    | @tup a vs _ z s t =>
    rw [t.length] at q
    exact .inl ⟨a, vs, rfl, .inr s, q _ _ (Grow.refl H) (RepK.of (.int _) rfl)⟩
  · rename_i ns
    cases e
    have q1 := r1.rep rfl
    cases q1 with
    | @scr a _ s =>
    refine .inl ⟨a, ns.map V.int, rfl, .inl s.sq, ?_⟩
    rw [List.length_map]
    exact q _ _ (Grow.refl H) (RepK.of (.int _) rfl)
  · split at e
    · rename_i z hz
      cases e
      have q1 := r1.rep rfl
      cases q1
      exact .inr ⟨z, rfl, hz, q _ _ (Grow.refl H) (RepK.of (.int _) rfl)⟩
    · cases e
  · cases e
theorem o_neg : Op1 S k1 k (fun x H Q => ∃ i, x = .int i ∧ Q (.int (-i)) H) oNeg := fun μ own H x d1 d Q fr r1 e q => by
  unfold oNeg at e
  split at e
  · cases e
    have q1 := r1.rep rfl
    cases q1
    exact ⟨_, rfl, q _ _ (Grow.refl H) (RepK.of (.int _) rfl)⟩
  · cases e
theorem reps1 {K : PySem.W.Frag} {μ : List Addr} {own : Own} {H : Hp} {d : D} {xs : List V} (h : Reps K μ own H [d] xs) : ∃ v, xs = [v] ∧ Rep K μ own H d v := by
  cases h with
  | cons r t => cases t; exact ⟨_, rfl, r⟩
theorem reps2 {K : PySem.W.Frag} {μ : List Addr} {own : Own} {H : Hp} {d e : D} {xs : List V} (h : Reps K μ own H [d, e] xs) : ∃ v u, xs = [v, u] ∧ Rep K μ own H d v ∧ Rep K μ own H e u := by
  cases h with
  | cons r t =>
    obtain ⟨u, rfl, q⟩ := reps1 t
    exact ⟨_, u, rfl, r, q⟩
theorem o_abs : OpN S k (fun xs H Q => ∃ i, xs = [.int i] ∧ Q (.int (if i < 0 then -i else i)) H) oAbs := fun μ own H xs ds d Q fr r e q => by
  unfold oAbs at e
  split at e
  · cases e
    obtain ⟨v, rfl, h⟩ := reps1 r
    cases h
    exact ⟨_, rfl, q _ _ (Grow.refl H) (RepK.of (.int _) rfl)⟩
  · cases e
theorem o_max2 : OpN S k (fun xs H Q => ∃ i j, xs = [.int i, .int j] ∧ Q (.int (if j > i then j else i)) H) oMax2 := fun μ own H xs ds d Q fr r e q => by
  unfold oMax2 at e
  split at e
  · cases e
    obtain ⟨v, u, rfl, h, h'⟩ := reps2 r
    cases h; cases h'
    exact ⟨_, _, rfl, q _ _ (Grow.refl H) (RepK.of (.int _) rfl)⟩
  · cases e
theorem o_min2 : OpN S k (fun xs H Q => ∃ i j, xs = [.int i, .int j] ∧ Q (.int (if j < i then j else i)) H) oMin2 := fun μ own H xs ds d Q fr r e q => by
  unfold oMin2 at e
  split at e
  · cases e
    obtain ⟨v, u, rfl, h, h'⟩ := reps2 r
    cases h; cases h'
    exact ⟨_, _, rfl, q _ _ (Grow.refl H) (RepK.of (.int _) rfl)⟩
  · cases e
theorem o_int : OpN S k (fun xs H Q => (∃ i, xs = [.int i] ∧ Q (.int i) H) ∨ ∃ k, xs = [.bl k] ∧ Q (.int (if k then 1 else 0)) H) oInt := fun μ own H xs ds d Q fr r e q => by
  unfold oInt at e
  split at e
  · cases e
    obtain ⟨v, rfl, h⟩ := reps1 r
    cases h
    exact .inl ⟨_, rfl, q _ _ (Grow.refl H) (RepK.of (.int _) rfl)⟩
  · cases e
    obtain ⟨v, rfl, h⟩ := reps1 r
    cases h
    exact .inr ⟨_, rfl, q _ _ (Grow.refl H) (RepK.of (.int _) rfl)⟩
  · cases e
theorem o_tuple (hk : k1 ≤ 1) : Op1 S k1 k (fun x H Q => ∃ p ys, [x] = [V.ref p] ∧ ((SqL S.K H p ys ∧ ∀ l, H l = none → Q (.ref l) (upd H l (.tup ys))) ∨ (SqT S.K H p ys ∧ Q (.ref p) H))) oTuple := fun μ own H x d1 d Q fr r1 e q => by
  unfold oTuple at e
  split at e
  · cases e
    obtain ⟨a, vs, rfl, s, t, z⟩ := r1.list hk
    exact ⟨a, vs, rfl, .inl ⟨SqL.of s, fun l hl => q _ _ (Grow.upd hl) (RepK.of (.tup z (SqT.of upd_same) (t.keep (Grow.upd hl).keeps (List.prefix_refl _))) rfl)⟩⟩
  · cases e
    have q1 := r1.rep rfl
    cases q1 with
    | @tup a vs _ z s t => exact ⟨a, vs, rfl, .inr ⟨s, q _ _ (Grow.refl H) (RepK.of (.tup z s t) rfl)⟩⟩
  · cases e
theorem o_list (hk : k1 ≤ 1) : Op1 S k1 1 (fun x H Q => ∃ p ys, [x] = [V.ref p] ∧ (SqL S.K H p ys ∨ SqT S.K H p ys) ∧ ∀ l, H l = none → Q (.ref l) (upd H l (.lst ys))) oList := fun μ own H x d1 d Q fr r1 e q => by
  unfold oList at e
  split at e
  · cases e
    obtain ⟨a, vs, rfl, s, t, z⟩ := r1.list hk
    exact ⟨a, vs, rfl, .inl (SqL.of s), fun l hl => q _ _ (Grow.upd hl) (RepK.newL (k := 0) upd_same ⟨fr l hl, hl⟩ (t.keep (Grow.upd hl).keeps (List.prefix_refl _)) z)⟩
  · cases e
    have q1 := r1.rep rfl
    cases q1 with
    | @tup a vs _ z s t => exact ⟨a, vs, rfl, .inr s, fun l hl => q _ _ (Grow.upd hl) (RepK.newL (k := 0) upd_same ⟨fr l hl, hl⟩ (t.keep (Grow.upd hl).keeps (List.prefix_refl _)) z)⟩
  · cases e
theorem kitB_ty : ∀ {a b : String}, (a = "NoneType" ∨ a = "bool" ∨ a = "int" ∨ a = "str" ∨ a = "tuple" ∨ a = "list") → tyOk b = true → kitB a b = some (subTy a b) := by
  intro a b ha hb
  have hb' : b = "int" ∨ b = "bool" ∨ b = "str" ∨ b = "tuple" ∨ b = "list" ∨ b = "dict" := by
    unfold tyOk at hb
    simp only [Bool.or_eq_true, beq_iff_eq] at hb
    rcases hb with ((((h | h) | h) | h) | h) | h <;> simp [h]
  rcases ha with rfl | rfl | rfl | rfl | rfl | rfl <;> rcases hb' with rfl | rfl | rfl | rfl | rfl | rfl <;> decide +kernel
theorem Rep.tyx {K : PySem.W.Frag} {μ : List Addr} {own : Own} {H : Hp} {d : D} {v : V} {a : String} (h : Rep K μ own H d v) (e : tyName d = some a) : TyX K H v (.type a) ∧ (a = "NoneType" ∨ a = "bool" ∨ a = "int" ∨ a = "str" ∨ a = "tuple" ∨ a = "list") := by
  cases h with
  | non => cases e; exact ⟨.base .non, by simp⟩
  | bl b => cases e; exact ⟨.base (.bl b), by simp⟩
  | int b => cases e; exact ⟨.base (.int b), by simp⟩
  | str b => cases e; exact ⟨.base (.str b), by simp⟩
  | tup z s t =>
    cases e
    refine ⟨?_, by simp⟩
    rcases s with (s | ⟨o, s⟩) | ⟨o, _, _, s, c, _⟩
    · exact .base (.tup s)
    · exact .fTuple s
    · exact .kTuple s c
  | lst z s t => cases e; exact ⟨.base (.lst s.1), by simp⟩
  | ref _ => cases e
  | ty _ => cases e
  | scr _ => cases e
  | set _ _ _ _ _ => cases e
theorem RepK.tyx {K : PySem.W.Frag} {μ : List Addr} {own : Own} {H : Hp} {P : Addr → Prop} {d : D} {v : V} {a : String} : ∀ {k : Nat}, RepK K μ own H k P d v → tyName d = some a → TyX K H v (.type a) ∧ (a = "NoneType" ∨ a = "bool" ∨ a = "int" ∨ a = "str" ∨ a = "tuple" ∨ a = "list")
  | 0, h, e => Rep.tyx h e
  | k + 1, .inl ⟨_, h⟩, e => Rep.tyx h e
  | k + 1, .inr ⟨_, _, _, e1, e2, _, s, _⟩, e => by
    subst e1 e2
    cases e
    exact ⟨.base (.lst s), by simp⟩
theorem o_isInst : OpN S k (rIsi S.K) oIsInst := fun μ own H xs ds d Q fr r e q => by
  unfold oIsInst at e
  split at e
  · rename_i x b
    obtain ⟨v, u, rfl, h, h'⟩ := reps2 r
    cases h'
    split at e
    · rename_i a ha
      split at e
      · rename_i hb
        cases e
        obtain ⟨t1, t2⟩ := h.tyx ha
        exact ⟨v, .ty b, .type a, .type b, _, rfl, .ty b, t1, kit_ty (kitB_ty t2 hb), q _ _ (Grow.refl H) (RepK.of (.bl _) rfl)⟩
      · cases e
    · cases e
  · cases e
theorem o_all (hk : k1 ≤ 1) : Op1 S k1 k (fun x => rAll S.K [x]) oAll := fun μ own H x d1 d Q fr r1 e q => by
  unfold oAll at e
  split at e
  · obtain ⟨bs, e1, e2⟩ := Option.map_eq_some_iff.mp e
    subst e2
    obtain ⟨a, vs, rfl, s, t, z⟩ := r1.list hk
    have := t.bls e1
    subst this
    exact ⟨a, bs, rfl, SqL.of s, q _ _ (Grow.refl H) (RepK.of (.bl _) rfl)⟩
  · cases e
theorem o_any (hk : k1 ≤ 1) : Op1 S k1 k (fun x => rAny S.K [x]) oAny := fun μ own H x d1 d Q fr r1 e q => by
  unfold oAny at e
  split at e
  · obtain ⟨bs, e1, e2⟩ := Option.map_eq_some_iff.mp e
    subst e2
    obtain ⟨a, vs, rfl, s, t, z⟩ := r1.list hk
    have := t.bls e1
    subst this
    exact ⟨a, bs, rfl, SqL.of s, q _ _ (Grow.refl H) (RepK.of (.bl _) rfl)⟩
  · cases e
theorem o_sum (hk : k1 ≤ 1) : Op1 S k1 k (fun x => rSum S.K [x]) oSum := fun μ own H x d1 d Q fr r1 e q => by
  unfold oSum at e
  split at e
  · obtain ⟨bs, e1, e2⟩ := Option.map_eq_some_iff.mp e
    subst e2
    obtain ⟨a, vs, rfl, s, t, z⟩ := r1.list hk
    have := t.intsD e1
    subst this
    exact ⟨a, bs, rfl, SqL.of s, q _ _ (Grow.refl H) (RepK.of (.int _) rfl)⟩
  · cases e
end
end M
/-! M4: truth, slices, calls, the store's dicts, what is walked, comprehensions. -/
namespace M
open PySem PySem.Spec PyProof.Rows L2
section
variable {S : Srd} {Γ : List Nat} {g : Tag} {k k1 : Nat} {X : Cx}

/-! ### truth -/
theorem sim_tru {t : TE} {m : ME} (hk : k ≤ 1) (h : SimE S Γ g k t m) : SimT S Γ (fun σ H Q => t σ H fun x H' => ∃ b, TruV S.K x H' b ∧ Q b H') (tTru m) := by
  intro own μ ρ s σ H Q R hd
  refine h own μ ρ s σ H _ R ?_
  unfold tTru at hd
  cases q : m ρ s with
  | no => rw [q] at hd; exact hd
  | ex e s' => rw [q] at hd; exact hd
  | ok d s1 =>
    rw [q] at hd
    intro own1 μ1 v H1 R1 e1 m1 r1
    simp only [Res.bind] at hd
    cases q2 : truth d with
    | none => rw [q2] at hd; exact hd.elim
    | some b =>
      rw [q2] at hd
      refine ⟨b, ?_, hd own1 μ1 H1 R1 e1 m1⟩
      cases d with
      | non => have r2 := r1.rep rfl; cases r2; cases q2; rfl
      | bl b => have r2 := r1.rep rfl; cases r2; cases q2; rfl
      | int i => have r2 := r1.rep rfl; cases r2; cases q2; rfl
      | tup ds =>
        have r2 := r1.rep rfl
        cases r2 with
        | tup z s t =>
          cases q2
          refine .inr (.inl ⟨_, s, ?_⟩)
          cases t <;> rfl
      | lst ds =>
        obtain ⟨a, vs, rfl, s, t, z⟩ := r1.list hk
        cases q2
        refine .inl ⟨_, SqL.of s, ?_⟩
        cases t <;> rfl
      | str _ => cases q2
      | ref _ => cases q2
      | ty _ => cases q2
      | scr _ => cases q2
      | set _ => cases q2

/-! ### slices -/
abbrev MO := Env → Sto → Res (Option Int)
def pNo : MO := fun _ s => .ok none s
def pSome (m : ME) : MO := fun ρ s => (m ρ s).bind fun d s1 => match d with
  | .int i => .ok (some i) s1
  | _ => .no
def eCut (a : ME) (lo hi : MO) : ME := fun ρ s => (a ρ s).bind fun d s1 => (lo ρ s1).bind fun l s2 => (hi ρ s2).bind fun u s3 => ofO (oCut d l u) s3
def DoneO (S : Srd) (Γ : List Nat) (own : Own) (μ : List Addr) (ρ : Env) (σ : St) (H : Hp) (Q : Option Int → Hp → Prop) : Res (Option Int) → Prop
  | .ok o s' => ∀ own' μ' H', Rel S.B S.K Γ own' μ' ρ s' σ H' → Ext own H own' H' → μ <+: μ' → Q o H'
  | .ex e s' => ∀ own' μ' H' c x, Rel S.B S.K Γ own' μ' ρ s' σ H' → Ext own H own' H' → μ <+: μ' → RepX S.K μ' own' H' S.CA e c x → S.E c x H'
  | .no => False
def SimO (S : Srd) (Γ : List Nat) (t : TO) (m : MO) : Prop := ∀ own μ ρ s σ H (Q : Option Int → Hp → Prop), Rel S.B S.K Γ own μ ρ s σ H → DoneO S Γ own μ ρ σ H Q (m ρ s) → t σ H Q
theorem sim_pno : SimO S Γ tNoPart pNo := fun own μ ρ s σ H Q R hd => hd own μ H R .refl (List.prefix_refl _)
theorem sim_psome {t : TE} {m : ME} (h : SimE S Γ g 0 t m) : SimO S Γ (tPart t) (pSome m) := by
  intro own μ ρ s σ H Q R hd
  refine h own μ ρ s σ H _ R ?_
  unfold pSome at hd
  cases q : m ρ s with
  | no => rw [q] at hd; exact hd
  | ex e s' => rw [q] at hd; exact hd
  | ok d s1 =>
    rw [q] at hd
    intro own1 μ1 v H1 R1 e1 m1 r1
    cases r1 with
    | int i => exact ⟨i, rfl, hd own1 μ1 H1 R1 e1 m1⟩
    | _ => exact False.elim hd
theorem SlR.or {r r' : V → Option Int → Option Int → Hp → VK → Prop} (h : SlR X r) (h' : SlR X r') : SlR X (fun x lo hi H Q => r x lo hi H Q ∨ r' x lo hi H Q) := L2.SlR.or h h'
def rSlG (K : PySem.W.Frag) : V → Option Int → Option Int → Hp → VK → Prop := fun x lo hi H Q => rSlL K x lo hi H Q ∨ rSlA K x lo hi H Q
theorem sl_G : SlR X (rSlG X.K) := L2.SlR.or sl_list sl_tupA
theorem cutG_length {α : Type} (xs : List α) (lo hi : Option Int) : (cutG xs lo hi).length ≤ xs.length := by
  unfold cutG
  rw [List.length_take, List.length_drop]
  omega
theorem doneO_bind {Q : VK} {own : Own} {μ : List Addr} {ρ : Env} {σ : St} {H : Hp} {r : Res (Option Int)} {f : Option Int → Sto → Res D} {Q1 : Option Int → Hp → Prop}
    (hd : Done S Γ g k own μ ρ σ H Q (r.bind f)) (hn : ∀ b s1 own1 μ1 H1, Rel S.B S.K Γ own1 μ1 ρ s1 σ H1 → Ext own H own1 H1 → μ <+: μ1 → Done S Γ g k own1 μ1 ρ σ H1 Q (f b s1) → Q1 b H1) :
    DoneO S Γ own μ ρ σ H Q1 r := by
  cases r with
  | no => exact hd
  | ex e s' => exact hd
  | ok d s1 => exact fun own1 μ1 H1 R1 e1 m1 => hn d s1 own1 μ1 H1 R1 e1 m1 (Done.step e1 m1 hd)
theorem sim_cut {t : TE} {tl th : TO} {m : ME} {lo hi : MO} (hk : k1 ≤ 1) (h : SimE S Γ g k1 t m) (hl : SimO S Γ tl lo) (hh : SimO S Γ th hi) : SimE S Γ .fresh 1 (tSl (rSlG S.K) t tl th) (eCut m lo hi) := by
  intro own μ ρ s σ H Q R hd
  refine h own μ ρ s σ H _ R (done_bind (α := D) hd fun d s1 own1 μ1 v H1 R1 e1 m1 r1 hd1 => ?_)
  refine hl own1 μ1 ρ s1 σ H1 _ R1 (doneO_bind hd1 fun l s2 own2 μ2 H2 R2 e2 m2 hd2 => ?_)
  refine hh own2 μ2 ρ s2 σ H2 _ R2 (doneO_bind hd2 fun u s3 own3 μ3 H3 R3 e3 m3 hd3 => ?_)
  have r3 := r1.held (e2.trans e3) (m2.trans m3)
  cases d with
  | lst ds =>
    obtain ⟨a, vs, rfl, hs, t, z⟩ := r3.list hk
    refine .inl ⟨a, vs, rfl, SqL.of hs, fun p hp => ?_⟩
    exact hd3 own3 μ3 _ _ (R3.grow (Grow.upd hp)) (Grow.upd hp).ext (List.prefix_refl _) (RepK.newL (k := 0) upd_same ⟨R3.sto.fresh p hp, hp⟩ ((t.cut l u).keep (Grow.upd hp).keeps (List.prefix_refl _)) (Nat.le_trans (cutG_length _ _ _) z))
  | tup ds =>
    have r4 := r3.rep rfl
    cases r4 with
    | @tup a vs _ z hs t =>
    refine .inr ⟨a, vs, rfl, hs, fun hw => ?_, fun hw p hp => ?_⟩
    · have e : cutG ds l u = ds := by
        unfold cutG
        rw [t.length, hw.1, hw.2, List.drop_zero, Nat.sub_zero, ← t.length, List.take_length]
      have hd4 : Done S Γ .fresh 1 own3 μ3 ρ σ H3 Q (.ok (.tup (cutG ds l u)) s3) := hd3
      rw [e] at hd4
      exact hd4 own3 μ3 _ H3 R3 .refl (List.prefix_refl _) (RepK.of (.tup z hs t) rfl)
    · exact hd3 own3 μ3 _ _ (R3.grow (Grow.upd hp)) (Grow.upd hp).ext (List.prefix_refl _) (RepK.of (.tup (Nat.le_trans (cutG_length _ _ _) z) (SqT.of upd_same) ((t.cut l u).keep (Grow.upd hp).keeps (List.prefix_refl _))) rfl)
  | _ => exact False.elim hd3

/-! ### a def's promise by its plain function -/
def DoneF (BB : Bd) (K : PySem.W.Frag) (CA : Nat → Option Addr) (E : XK) (r : Nat) (own : Own) (μ : List Addr) (H : Hp) (Q : VK) : Res D → Prop
  | .ok d s' => ∀ own' μ' v H', StoOk BB K μ' own' s' H' → Ext own H own' H' → μ <+: μ' → RepK K μ' own' H' r (fun a => own' a = .tmp ∧ H a = none) d v → Q v H'
  | .ex e s' => ∀ own' μ' H' c x, StoOk BB K μ' own' s' H' → Ext own H own' H' → μ <+: μ' → RepX K μ' own' H' CA e c x → E c x H'
  | .no => False
def EntryL (own : Own) (H : Hp) : Prop := ∀ a o, H a = some o → own a = .frz ∨ own a = .out ∨ ∃ n, own a = .cell n
def spD (BB : Bd) (K : PySem.W.Frag) (CA : Nat → Option Addr) (r n : Nat) (f : List D → Sto → Res D) : Sp := fun vs H Q E => ∃ own μ ds s, vs.length = n ∧ Reps K μ own H ds vs ∧ StoOk BB K μ own s H ∧ EntryL own H ∧ DoneF BB K CA E r own μ H Q (f ds s)

open Classical in
/-- the labels as a callee sees them -/
noncomputable def outer (own : Own) (H : Hp) : Own := fun a => match own a with
  | .slot _ => .out
  | .tmp => if H a = none then .tmp else .out
  | l => l
theorem outer_frz {own : Own} {H : Hp} {a : Addr} : outer own H a = .frz ↔ own a = .frz := by
  unfold outer
  cases own a <;> simp
  split <;> simp
theorem outer_cell {own : Own} {H : Hp} {a : Addr} {n : Nat} : outer own H a = .cell n ↔ own a = .cell n := by
  unfold outer
  cases own a <;> simp
  split <;> simp
open Classical in
/-- the labels behind a call: of what stood the caller's own -/
noncomputable def back (own : Own) (H : Hp) (own' : Own) : Own := fun a => if H a = none then own' a else own a

theorem call_back {BB : Bd} {K : PySem.W.Frag} {own own' : Own} {μ μ' : List Addr} {ρ : Env} {s s' : Sto} {σ : St} {H H' : Hp} (R : Rel BB K Γ own μ ρ s σ H) (so : StoOk BB K μ' own' s' H') (e : Ext (outer own H) H own' H') (m : μ <+: μ') :
    Rel BB K Γ (back own H own') μ' ρ s' σ H' ∧ Ext own H (back own H own') H' ∧ (∀ a, own' a = .frz → H' a ≠ none → back own H own' a = .frz) ∧ (∀ a, H a = none → back own H own' a = own' a) := by
  have b1 : ∀ a o, H a = some o → back own H own' a = own a := fun a o h => if_neg (by rw [h]; intro z; cases z)
  have b2 : ∀ a, H a = none → back own H own' a = own' a := fun a h => if_pos h
  have nc : ∀ a, NonCell own a → NonCell (outer own H) a := fun a h n z => h n (outer_cell.mp z)
  have e' : Ext own H (back own H own') H' := ⟨fun a o h n => e.obj a o h (nc a n), e.tup, e.frzs, b1, e.there⟩
  have fz : ∀ a, own' a = .frz → back own H own' a = .frz := fun a h => by
    cases q : H a with
    | none => rw [b2 a q]; exact h
    | some o =>
      rw [b1 a o q]
      have := e.lab a o q
      rw [h] at this
      exact outer_frz.mp this.symm
  have kp : Keeps own' (back own H own') H' H' := ⟨fun _ _ h => h, fun _ _ _ h => h, fun a o h l => ⟨h, fz a l⟩⟩
  have cl : ∀ a n, own' a = .cell n ↔ back own H own' a = .cell n := fun a n => by
    cases q : H a with
    | none => rw [b2 a q]
    | some o =>
      rw [b1 a o q, e.lab a o q]
      exact outer_cell
  refine ⟨⟨R.len, fun i d h => ?_, ⟨so.len, fun n c h => ?_, fun a n h => so.lab a n ((cl a n).mpr h), fun a h => ?_⟩⟩, e', fun a h _ => fz a h, b2⟩
  · obtain ⟨v, h1, h2⟩ := R.slot i d h
    refine ⟨v, h1, h2.keep e'.keeps m fun a o p q => ?_⟩
    exact ⟨(b1 a o q).trans p, e'.obj a o q (fun n => by rw [p]; intro z; cases z)⟩
  · obtain ⟨a, h1, h2, h3⟩ := so.cell n c h
    exact ⟨a, h1, (cl a n).mp h2, h3.keep kp (List.prefix_refl _) fun o q => q⟩
  · rw [b2 a (e'.none h)]
    exact so.fresh a h
theorem sim_call {r n : Nat} {f : List D → Sto → Res D} {t : TA} {ms : List ME} (h : SimA S Γ t (evs ms)) (hn : ms.length = n) : SimE S Γ .fresh r (tCall (spD S.B S.K S.CA r n f) [] S.E t) (eCall f ms) := by
  intro own μ ρ s σ H Q R hd
  refine h own μ ρ s σ H _ R (doneA_bind hd fun ds s1 own1 μ1 vs H1 q R1 e1 m1 r1 hd1 => ?_)
  have kp : Keeps own1 (outer own1 H1) H1 H1 := ⟨fun _ _ h => h, fun _ _ _ h => h, fun a o h l => ⟨h, outer_frz.mpr l⟩⟩
  refine ⟨outer own1 H1, μ1, ds, s1, ?_, ?_, ⟨R1.sto.len, fun n c h => ?_, fun a n h => R1.sto.lab a n (outer_cell.mp h), fun a h => ?_⟩, fun a o h => ?_, ?_⟩
  · rw [List.append_nil, ← r1.length, evs_length q]; exact hn
  · rw [List.append_nil]; exact r1.keep kp (List.prefix_refl _)
  · obtain ⟨a, h1, h2, h3⟩ := R1.sto.cell n c h
    exact ⟨a, h1, outer_cell.mpr h2, h3.keep kp (List.prefix_refl _) fun o q => q⟩
  · unfold outer
    rw [R1.sto.fresh a h]
    exact if_pos h
  · unfold outer
    cases q2 : own1 a with
    | frz => exact .inl rfl
    | slot i => exact .inr (.inl rfl)
    | cell n => exact .inr (.inr ⟨n, rfl⟩)
    | out => exact .inr (.inl rfl)
    | tmp => exact .inr (.inl (if_neg (by rw [h]; intro z; cases z)))
  · cases q3 : f ds s1 with
    | no => rw [q3] at hd1; exact hd1.elim
    | ok d s2 =>
      rw [q3] at hd1
      intro own' μ' v H' so e m rv
      obtain ⟨R2, e2, fz, bk⟩ := call_back R1 so e m
      refine hd1 _ μ' v H' R2 e2 m (rv.keep ⟨fun _ _ h => h, fun _ _ _ h => h, fun a o h l => ⟨h, fz a l (by rw [h]; intro z; cases z)⟩⟩ (List.prefix_refl _) fun a o p q => ⟨⟨(bk a p.2).trans p.1, p.2⟩, q⟩)
    | ex x s2 =>
      rw [q3] at hd1
      intro own' μ' H' c y so e m rx
      obtain ⟨R2, e2, fz, bk⟩ := call_back R1 so e m
      obtain ⟨C, d, vs', h1, h2, h3, h4, h5, h6⟩ := rx
      exact hd1 _ μ' H' c y R2 e2 m ⟨C, d, vs', h1, h2, h3, h4, h5, h6.keep ⟨fun _ _ h => h, fun _ _ _ h => h, fun a o h l => ⟨h, fz a l (by rw [h]; intro z; cases z)⟩⟩ (List.prefix_refl _)⟩
theorem sim_call0 {r : Nat} {f : List D → Sto → Res D} : SimE S Γ .fresh r (tCall (spD S.B S.K S.CA r 0 f) [] S.E tNil) (eCall f []) := sim_call sim_nil rfl

/-! ### what is walked -/
/-- J yields the data ds, as long as what lasts lasts -/
def ItD (K : PySem.W.Frag) (μ : List Addr) (own : Own) (H : Hp) (J : It) (ds : List D) : Prop :=
  ds.length ≤ sizeLine ∧ ∀ i own' μ' H', Keeps own own' H H' → μ <+: μ' →
    (∀ d, ds[i]? = some d → J.go i H' ∧ ∀ x H'', J.yld i H' x H'' → Grow H' H'' ∧ Rep K μ' own' H'' d x) ∧ (ds.length ≤ i → J.stop i H')
abbrev MI := Env → Sto → Res (List D)
def DoneI (S : Srd) (Γ : List Nat) (own : Own) (μ : List Addr) (ρ : Env) (σ : St) (H : Hp) (R : It → Hp → Prop) : Res (List D) → Prop
  | .ok ds s' => ∀ own' μ' J H', Rel S.B S.K Γ own' μ' ρ s' σ H' → Ext own H own' H' → μ <+: μ' → ItD S.K μ' own' H' J ds → R J H'
  | .ex e s' => ∀ own' μ' H' c x, Rel S.B S.K Γ own' μ' ρ s' σ H' → Ext own H own' H' → μ <+: μ' → RepX S.K μ' own' H' S.CA e c x → S.E c x H'
  | .no => False
def SimI (S : Srd) (Γ : List Nat) (wi : TI) (mi : MI) : Prop := ∀ own μ ρ s σ H (R : It → Hp → Prop), Rel S.B S.K Γ own μ ρ s σ H → DoneI S Γ own μ ρ σ H R (mi ρ s) → wi σ H R
theorem DoneI.step {own own1 : Own} {μ μ1 : List Addr} {ρ : Env} {σ : St} {H H1 : Hp} {R : It → Hp → Prop} (e : Ext own H own1 H1) (m : μ <+: μ1) : ∀ {r : Res (List D)}, DoneI S Γ own μ ρ σ H R r → DoneI S Γ own1 μ1 ρ σ H1 R r
  | .ok d s', h => fun own' μ' J H' R e' m' rv => h own' μ' J H' R (e.trans e') (m.trans m') rv
  | .ex x s', h => fun own' μ' H' c y R e' m' rx => h own' μ' H' c y R (e.trans e') (m.trans m') rx
  | .no, h => h
def iL (m : ME) : MI := fun ρ s => (m ρ s).bind fun d s1 => match d with
  | .lst ds => .ok ds s1
  | _ => .no
def iT (m : ME) : MI := fun ρ s => (m ρ s).bind fun d s1 => match d with
  | .tup ds => .ok ds s1
  | _ => .no
theorem itd_list {K : PySem.W.Frag} {μ : List Addr} {own : Own} {H : Hp} {a : Addr} {vs : List V} {ds : List D} (z : ds.length ≤ sizeLine) (h : FzL own H a vs) (r : Reps K μ own H ds vs) : ItD K μ own H (Itl K a) ds := by
  refine ⟨z, fun i own' μ' H' kp m => ⟨fun d hd => ?_, fun hi => ?_⟩⟩
  · obtain ⟨v, hv, rv⟩ := r.get hd
    have h' := (kp.fzL h).1
    refine ⟨⟨vs, v, SqL.of h', hv⟩, fun x H'' y => ?_⟩
    obtain ⟨rfl, y⟩ := y
    have := y vs (SqL.of h')
    rw [hv] at this
    cases this
    exact ⟨Grow.refl _, rv.keep kp m⟩
  · exact ⟨vs, SqL.of (kp.fzL h).1, by rw [← r.length]; exact hi⟩
theorem itd_tup {K : PySem.W.Frag} {μ : List Addr} {own : Own} {H : Hp} {a : Addr} {vs : List V} {ds : List D} (z : ds.length ≤ sizeLine) (h : SqT K H a vs) (r : Reps K μ own H ds vs) : ItD K μ own H (Itt K a) ds := by
  refine ⟨z, fun i own' μ' H' kp m => ⟨fun d hd => ?_, fun hi => ?_⟩⟩
  · obtain ⟨v, hv, rv⟩ := r.get hd
    have h' := kp.sqT h
    refine ⟨⟨vs, v, h', hv⟩, fun x H'' y => ?_⟩
    obtain ⟨rfl, y⟩ := y
    have := y vs h'
    rw [hv] at this
    cases this
    exact ⟨Grow.refl _, rv.keep kp m⟩
  · exact ⟨vs, kp.sqT h, by rw [← r.length]; exact hi⟩
theorem sim_iL {t : TE} {m : ME} (h : SimE S Γ g 0 t m) : SimI S Γ (iList S.K t) (iL m) := by
  intro own μ ρ s σ H Q R hd
  refine h own μ ρ s σ H _ R ?_
  unfold iL at hd
  cases q : m ρ s with
  | no => rw [q] at hd; exact hd
  | ex e s' => rw [q] at hd; exact hd
  | ok d s1 =>
    rw [q] at hd
    intro own1 μ1 v H1 R1 e1 m1 r1
    cases r1 with
    | lst z hs t => exact ⟨_, rfl, ⟨_, SqL.of hs.1⟩, hd own1 μ1 _ H1 R1 e1 m1 (itd_list z hs t)⟩
    | _ => exact False.elim hd
theorem sim_iT {t : TE} {m : ME} (h : SimE S Γ g 0 t m) : SimI S Γ (iTup S.K t) (iT m) := by
  intro own μ ρ s σ H Q R hd
  refine h own μ ρ s σ H _ R ?_
  unfold iT at hd
  cases q : m ρ s with
  | no => rw [q] at hd; exact hd
  | ex e s' => rw [q] at hd; exact hd
  | ok d s1 =>
    rw [q] at hd
    intro own1 μ1 v H1 R1 e1 m1 r1
    cases r1 with
    | tup z hs t => exact ⟨_, rfl, ⟨_, hs⟩, hd own1 μ1 _ H1 R1 e1 m1 (itd_tup z hs t)⟩
    | _ => exact False.elim hd
/-- lo, lo + 1, .. -/
def rngD (lo : Int) (n : Nat) : List D := (List.range n).map fun i => .int (lo + (i : Nat))
def iR1 (ms : List ME) : MI := fun ρ s => (evs ms ρ s).bind fun ds s1 => match ds with
  | [.int j] => if -(2 ^ 62) ≤ j ∧ j ≤ 16777216 then .ok (rngD 0 j.toNat) s1 else .no
  | _ => .no
def iR2 (ms : List ME) : MI := fun ρ s => (evs ms ρ s).bind fun ds s1 => match ds with
  | [.int i, .int j] => if -(2 ^ 62) ≤ i ∧ i < 2 ^ 62 ∧ -(2 ^ 62) ≤ j ∧ j < 2 ^ 62 ∧ j - i ≤ 16777216 then .ok (rngD i (j - i).toNat) s1 else .no
  | _ => .no
theorem itd_rng {K : PySem.W.Frag} {μ : List Addr} {own : Own} {H : Hp} {lo : Int} {n : Nat} (z : n ≤ sizeLine) : ItD K μ own H (Itr lo n) (rngD lo n) := by
  have hl : (rngD lo n).length = n := by unfold rngD; rw [List.length_map, List.length_range]
  refine ⟨by rw [hl]; exact z, fun i own' μ' H' kp m => ⟨fun d hd => ?_, fun hi => by rw [hl] at hi; exact hi⟩⟩
  have hi : i < n := by have := (List.getElem?_eq_some_iff.mp hd).1; rw [hl] at this; exact this
  unfold rngD at hd
  rw [List.getElem?_map, List.getElem?_range hi] at hd
  cases hd
  refine ⟨hi, fun x H'' y => ?_⟩
  obtain ⟨rfl, rfl⟩ := y
  exact ⟨Grow.refl _, .int _⟩
theorem doneAI {R' : It → Hp → Prop} {own : Own} {μ : List Addr} {ρ : Env} {σ : St} {H : Hp} {r : Res (List D)} {f : List D → Sto → Res (List D)} {Q1 : List V → Hp → Prop}
    (hd : DoneI S Γ own μ ρ σ H R' (r.bind f))
    (hn : ∀ ds s1 own1 μ1 vs H1, Rel S.B S.K Γ own1 μ1 ρ s1 σ H1 → Ext own H own1 H1 → μ <+: μ1 → Reps S.K μ1 own1 H1 ds vs → DoneI S Γ own1 μ1 ρ σ H1 R' (f ds s1) → Q1 vs H1) : DoneA S Γ own μ ρ σ H Q1 r := by
  cases r with
  | no => exact hd
  | ex e s' => exact hd
  | ok d s1 => exact fun own1 μ1 v H1 R1 e1 m1 r1 => hn d s1 own1 μ1 v H1 R1 e1 m1 r1 (DoneI.step e1 m1 hd)
theorem sim_iR1 {t : TA} {ms : List ME} (h : SimA S Γ t (evs ms)) : SimI S Γ (iRng1 t) (iR1 ms) := by
  intro own μ ρ s σ H Q R hd
  refine h own μ ρ s σ H _ R (doneAI hd fun ds s1 own1 μ1 vs H1 R1 e1 m1 r1 hd1 => ?_)
  split at hd1
  · rename_i j
    split at hd1
    · rename_i hc
      obtain ⟨v, rfl, hv⟩ := reps1 r1
      cases hv
      exact ⟨j, rfl, hc.1, by omega, hd1 own1 μ1 _ H1 R1 .refl (List.prefix_refl _) (itd_rng (by rw [sizeLine_eq]; omega))⟩
    · exact hd1.elim
  · exact hd1.elim
theorem sim_iR2 {t : TA} {ms : List ME} (h : SimA S Γ t (evs ms)) : SimI S Γ (iRng2 t) (iR2 ms) := by
  intro own μ ρ s σ H Q R hd
  refine h own μ ρ s σ H _ R (doneAI hd fun ds s1 own1 μ1 vs H1 R1 e1 m1 r1 hd1 => ?_)
  split at hd1
  · rename_i i j
    split at hd1
    · rename_i hc
      obtain ⟨v, u, rfl, hv, hu⟩ := reps2 r1
      cases hv; cases hu
      exact ⟨i, j, rfl, ⟨hc.1, hc.2.1, hc.2.2.1, hc.2.2.2.1⟩, hd1 own1 μ1 _ H1 R1 .refl (List.prefix_refl _) (itd_rng (by rw [sizeLine_eq]; omega))⟩
    · exact hd1.elim
  · exact hd1.elim

/-! ### targets -/
abbrev MG := D → Env → Option Env
abbrev MGs := List D → Env → Option Env
def gN (i : Nat) : MG := fun d ρ => some (ρ.set i (some d))
def gsN : MGs := fun ds ρ => match ds with
  | [] => some ρ
  | _ => none
def gsC (a : MG) (r : MGs) : MGs := fun ds ρ => match ds with
  | d :: ds => (a d ρ).bind (r ds)
  | _ => none
def gT (gs : MGs) : MG := fun d ρ => match d with
  | .tup ds => gs ds ρ
  | _ => none
/-- the slots at ws alone differ -/
def Chg (ws : List Nat) (σ σ' : St) : Prop := σ'.length = σ.length ∧ ∀ j, j ∉ ws → σ'[j]? = σ[j]?
def SimG (S : Srd) (Γ Γ' : List Nat) (ws : List Nat) (t : TG) (m : MG) : Prop := ∀ own μ ρ s σ H d v ρ' (Q : St → Hp → Prop), Rel S.B S.K Γ own μ ρ s σ H → Rep S.K μ own H d v → m d ρ = some ρ' → (∀ σ', Rel S.B S.K Γ' own μ ρ' s σ' H → Chg ws σ σ' → Q σ' H) → t v σ H Q
structure SimGs (S : Srd) (Γ Γ' : List Nat) (ws : List Nat) (n : Nat) (t : TGs) (m : MGs) : Prop where
  len : ∀ ds ρ ρ', m ds ρ = some ρ' → ds.length = n
  run : ∀ own μ ρ s σ H ds vs ρ' (Q : St → Hp → Prop), Rel S.B S.K Γ own μ ρ s σ H → Reps S.K μ own H ds vs → m ds ρ = some ρ' → (∀ σ', Rel S.B S.K Γ' own μ ρ' s σ' H → Chg ws σ σ' → Q σ' H) → t vs σ H Q
theorem getD_set {Γ : List Nat} {i j k : Nat} (hi : i < Γ.length) : (Γ.set i k).getD j 0 = if j = i then k else Γ.getD j 0 := by
  rw [List.getD_eq_getElem?_getD, List.getD_eq_getElem?_getD]
  by_cases e : j = i
  · subst e
    rw [if_pos rfl, List.getElem?_set_self hi]; rfl
  · rw [if_neg e, List.getElem?_set_ne (Ne.symm e)]
/-- a slot takes a value -/
theorem Rel.set {BB : Bd} {K : PySem.W.Frag} {own : Own} {μ : List Addr} {ρ : Env} {s : Sto} {σ : St} {H : Hp} {i : Nat} {d : D} {v : V} (R : Rel BB K Γ own μ ρ s σ H) (hi : i < Γ.length) (r : RepK K μ own H k (fun a => own a = .slot i) d v) :
    Rel BB K (Γ.set i k) own μ (ρ.set i (some d)) s (σ.set i (some v)) H := by
  refine ⟨by rw [List.length_set, List.length_set]; exact R.len, fun j e h => ?_, R.sto⟩
  rw [getD_set hi]
  by_cases q : j = i
  · subst q
    have hl : j < ρ.length := by
      have := (List.getElem?_eq_some_iff.mp h).1
      rw [List.length_set] at this
      exact this
    rw [List.getElem?_set_self hl] at h
    cases h
    rw [if_pos rfl]
    exact ⟨v, List.getElem?_set_self (by rw [R.len]; exact hl), r⟩
  · rw [List.getElem?_set_ne (Ne.symm q)] at h
    rw [if_neg q]
    obtain ⟨u, h1, h2⟩ := R.slot j e h
    exact ⟨u, by rw [List.getElem?_set_ne (Ne.symm q)]; exact h1, h2⟩
theorem Chg.set {σ : St} {i : Nat} {v : Option V} : Chg [i] σ (σ.set i v) := ⟨List.length_set, fun j h => List.getElem?_set_ne (fun e => h (by simp [e]))⟩
theorem Chg.refl {σ : St} : Chg [] σ σ := ⟨rfl, fun _ _ => rfl⟩
theorem Chg.trans {ws ws' : List Nat} {σ σ1 σ2 : St} (a : Chg ws σ σ1) (b : Chg ws' σ1 σ2) : Chg (ws ++ ws') σ σ2 :=
  ⟨b.1.trans a.1, fun j h => by rw [List.mem_append, not_or] at h; rw [b.2 j h.2, a.2 j h.1]⟩
theorem sim_gN {i : Nat} (hi : i < Γ.length) : SimG S Γ (Γ.set i 0) [i] (gName i) (gN i) := fun own μ ρ s σ H d v ρ' Q R r e q => by
  cases e
  exact q _ (R.set (k := 0) hi r) Chg.set
theorem sim_gsN : SimGs S Γ Γ [] 0 gNil gsN := by
  refine ⟨fun ds ρ ρ' e => ?_, fun own μ ρ s σ H ds vs ρ' Q R r e q => ?_⟩
  · cases ds with
    | nil => rfl
    | cons _ _ => cases e
  · cases r with
    | nil => cases e; exact ⟨rfl, q σ R Chg.refl⟩
    | cons _ _ => cases e
theorem sim_gsC {Γ1 Γ2 : List Nat} {ws ws' : List Nat} {n : Nat} {t : TG} {u : TGs} {a : MG} {r : MGs} (h1 : SimG S Γ Γ1 ws t a) (h2 : SimGs S Γ1 Γ2 ws' n u r) : SimGs S Γ Γ2 (ws ++ ws') (n + 1) (gCons t u) (gsC a r) := by
  refine ⟨fun ds ρ ρ' e => ?_, fun own μ ρ s σ H ds vs ρ' Q R rr e q => ?_⟩
  · cases ds with
    | nil => cases e
    | cons d ds =>
      unfold gsC at e
      cases q1 : a d ρ with
      | none => simp [q1] at e
      | some ρ1 =>
        simp only [q1, Option.bind_some] at e
        rw [List.length_cons, h2.len ds ρ1 ρ' e]
  · cases rr with
    | nil => cases e
    | @cons d v ds vs rd rt =>
      unfold gsC at e
      cases q1 : a d ρ with
      | none => simp [q1] at e
      | some ρ1 =>
        simp only [q1, Option.bind_some] at e
        exact ⟨v, vs, rfl, h1 own μ ρ s σ H d v ρ1 _ R rd q1 fun σ1 R1 c1 => h2.run own μ ρ1 s σ1 H ds vs ρ' Q R1 rt e fun σ2 R2 c2 => q σ2 R2 (c1.trans c2)⟩
theorem sim_gT {Γ2 : List Nat} {ws : List Nat} {n : Nat} {u : TGs} {r : MGs} (h : SimGs S Γ Γ2 ws n u r) : SimG S Γ Γ2 ws (gTup S.K n u) (gT r) := fun own μ ρ s σ H d v ρ' Q R rr e q => by
  cases rr with
  | @tup a vs ds z hs t => exact ⟨a, vs, rfl, hs, by rw [← t.length]; exact h.len _ _ _ e, h.run own μ ρ s σ H ds vs ρ' Q R t e q⟩
  | _ => cases e

/-! ### comprehensions -/
def wipeE (ρ : Env) : List Nat → Env
  | [] => ρ
  | v :: vs => (wipeE ρ vs).set v none
def Res.nox {α : Type} : Res α → Res α
  | .ex _ _ => .no
  | r => r
def compL (mg : MG) (mt : MT) (me : ME) (ρ : Env) : List D → Sto → Res (List D)
  | [], s => .ok [] s
  | d :: ds, s => match mg d ρ with
    | none => .no
    | some ρ1 => (mt ρ1 s).nox.bind fun b s1 => if b then (me ρ1 s1).nox.bind fun y s2 => (compL mg mt me ρ ds s2).bind fun ys s3 => .ok (y :: ys) s3 else compL mg mt me ρ ds s1
def eComp (mi : MI) (mg : MG) (mt : MT) (me : ME) (vs : List Nat) : ME := fun ρ s => (mi ρ s).bind fun ds s1 => (compL mg mt me (wipeE ρ vs) ds s1).bind fun ys s2 => .ok (.lst ys) s2
def tYesM : MT := fun _ s => .ok true s
theorem sim_yes : SimT S Γ tYes tYesM := fun own μ ρ s σ H Q R hd => hd own μ H R .refl (List.prefix_refl _)
theorem Rel.wiped {BB : Bd} {K : PySem.W.Frag} {own : Own} {μ : List Addr} {ρ : Env} {s : Sto} {σ : St} {H : Hp} (R : Rel BB K Γ own μ ρ s σ H) : ∀ vs : List Nat, Rel BB K Γ own μ (wipeE ρ vs) s (wipe σ vs) H
  | [] => R
  | v :: vs => by
    have R1 := Rel.wiped R vs
    refine ⟨by unfold wipe wipeE; rw [List.length_set, List.length_set]; exact R1.len, fun i d h => ?_, R1.sto⟩
    unfold wipeE at h
    by_cases e : v = i
    · subst e
      by_cases hv : v < (wipeE ρ vs).length
      · rw [List.getElem?_set_self hv] at h; cases h
      · rw [List.getElem?_eq_none (by simpa using hv)] at h; cases h
    · rw [List.getElem?_set_ne e] at h
      obtain ⟨u, h1, h2⟩ := R1.slot i d h
      exact ⟨u, by unfold wipe; rw [List.getElem?_set_ne e]; exact h1, h2⟩
theorem wipe_get (σ : St) (j : Nat) : ∀ vs : List Nat, (wipe σ vs)[j]? = if j ∈ vs then (if j < σ.length then some none else none) else σ[j]?
  | [] => by simp [wipe]
  | v :: vs => by
    unfold wipe
    by_cases e : v = j
    · subst e
      rw [if_pos List.mem_cons_self]
      by_cases hv : v < σ.length
      · rw [if_pos hv, List.getElem?_set_self (by rw [wipe_length]; exact hv)]
      · rw [if_neg hv, List.getElem?_eq_none (by rw [List.length_set, wipe_length]; omega)]
    · rw [List.getElem?_set_ne e, wipe_get σ j vs]
      by_cases h : j ∈ vs
      · rw [if_pos h, if_pos (List.mem_cons_of_mem _ h)]
      · rw [if_neg h, if_neg (by rw [List.mem_cons, not_or]; exact ⟨fun z => e z.symm, h⟩)]
theorem wipe_chg {ws vs : List Nat} {σ σ' : St} (c : Chg ws (wipe σ vs) σ') (hw : ∀ j ∈ ws, j ∈ vs) : wipe σ' vs = wipe σ vs := by
  apply List.ext_getElem?
  intro j
  rw [wipe_get, wipe_get, c.1, wipe_length]
  by_cases h : j ∈ vs
  · rw [if_pos h, if_pos h]
  · rw [if_neg h, if_neg h, c.2 j (fun z => h (hw j z)), wipe_get, if_neg h]
theorem Rel.after {BB : Bd} {K : PySem.W.Frag} {own own' : Own} {μ μ' : List Addr} {ρ : Env} {s s' : Sto} {σ : St} {H H' : Hp} (R : Rel BB K Γ own μ ρ s σ H) (e : Ext own H own' H') (m : μ <+: μ') (so : StoOk BB K μ' own' s' H') : Rel BB K Γ own' μ' ρ s' σ H' :=
  ⟨R.len, fun i d h => let ⟨v, h1, h2⟩ := R.slot i d h; ⟨v, h1, h2.keep e.keeps m fun a o p q => ⟨(e.lab a o q).trans p, e.obj a o q (fun n => by rw [p]; intro z; cases z)⟩⟩, so⟩
theorem keeps_tmp {own : Own} {H : Hp} {p : Addr} {o o' : HO} (hl : own p = .tmp) (hp : H p = some o) (n1 : ∀ xs, o ≠ .tup xs) (n2 : ∀ b u, o ≠ .frz b u) : Keeps own own H (upd H p o') := by
  have ne : ∀ a u, H a = some u → u ≠ o → a ≠ p := fun a u h n z => by subst z; rw [hp] at h; cases h; exact n rfl
  refine ⟨fun a xs h => ?_, fun a b u h => ?_, fun a u h l => ⟨?_, l⟩⟩
  · rw [upd_ne (ne a _ h (fun z => n1 xs z.symm))]; exact h
  · rw [upd_ne (ne a _ h (fun z => n2 b u z.symm))]; exact h
  · rw [upd_ne (fun z => by subst z; rw [hl] at l; cases l)]; exact h
/-- a new list that is still being made is lengthened -/
theorem StoOk.updT {BB : Bd} {K : PySem.W.Frag} {own : Own} {μ : List Addr} {s : Sto} {H : Hp} {p : Addr} {xs ys : List V} (R : StoOk BB K μ own s H) (hl : own p = .tmp) (hp : H p = some (.lst xs)) : StoOk BB K μ own s (upd H p (.lst ys)) := by
  have kp : Keeps own own H (upd H p (.lst ys)) := keeps_tmp hl hp (by intro _ z; cases z) (by intro _ _ z; cases z)
  refine ⟨R.len, fun n c h => ?_, R.lab, fun a h => ?_⟩
  · obtain ⟨a, h1, h2, h3⟩ := R.cell n c h
    refine ⟨a, h1, h2, h3.keep kp (List.prefix_refl _) fun o q => ?_⟩
    rw [upd_ne (fun z => by subst z; rw [hl] at h2; cases h2)]; exact q
  · by_cases e : a = p
    · subst e; exact hl
    · rw [upd_ne e] at h; exact R.fresh a h
theorem Ext.updT {own0 own : Own} {H0 H : Hp} {p : Addr} {o : HO} (e : Ext own0 H0 own H) (h0 : H0 p = Option.none) : Ext own0 H0 own (upd H p o) := by
  have ne : ∀ a u, H0 a = some u → a ≠ p := fun a u h z => by subst z; rw [h0] at h; cases h
  exact ⟨fun a u h n => by rw [upd_ne (ne a u h)]; exact e.obj a u h n, fun a xs h => by rw [upd_ne (ne a _ h)]; exact e.tup a xs h, fun a b u h => by rw [upd_ne (ne a _ h)]; exact e.frzs a b u h, e.lab,
    fun a u h => by rw [upd_ne (ne a u h)]; exact e.there a u h⟩
theorem nox_ok {α : Type} {r : Res α} {a : α} {s : Sto} (h : r.nox = .ok a s) : r = .ok a s := by
  cases r with
  | ok b t => exact h
  | ex _ _ => cases h
  | no => cases h
theorem nox_cases {α : Type} (r : Res α) : (∃ a s, r = .ok a s ∧ r.nox = .ok a s) ∨ r.nox = .no := by
  cases r with
  | ok b t => exact .inl ⟨b, t, rfl, rfl⟩
  | ex _ _ => exact .inr rfl
  | no => exact .inr rfl
/-- the same surroundings, where nothing is let out -/
def Srd.nox (S : Srd) : Srd := ⟨S.B, S.K, S.CA, E0⟩
theorem sim_lc {wi : TI} {tg : TG} {tt : TT} {te : TE} {mi : MI} {mg : MG} {mt : MT} {me : ME} {vs ws : List Nat} {Γ1 : List Nat} {g0 : Tag} (hi : SimI S Γ wi mi) (hg : SimG S.nox Γ Γ1 ws tg mg) (ht : SimT S.nox Γ1 tt mt) (he : SimE S.nox Γ1 g0 0 te me) (hw : ∀ j ∈ ws, j ∈ vs) :
    SimE S Γ .fresh 1 (tLc wi tg tt te vs) (eComp mi mg mt me vs) := by
  intro own μ ρ s σ H Q R hd
  refine hi own μ ρ s σ H _ R ?_
  unfold eComp at hd
  cases q : mi ρ s with
  | no => rw [q] at hd; exact hd
  | ex e s' => rw [q] at hd; exact hd
  | ok ds s1 =>
  rw [q] at hd
  intro own1 μ1 J H1 R1 e1 m1 it p hp
  have hd1 := Done.step e1 m1 hd
  have lp : own1 p = .tmp := R1.sto.fresh p hp
  -- the word
  refine ⟨fun i m H' => m = ds.length - i ∧ i ≤ ds.length ∧ ∃ (own' : Own) (μ' : List Addr) (s' : Sto) (acc : List D) (vs' : List V), StoOk S.B S.K μ' own' s' H' ∧ Ext own1 H1 own' H' ∧ μ1 <+: μ' ∧ own' p = .tmp ∧ H' p = some (.lst vs') ∧ Reps S.K μ' own' H' acc vs' ∧ acc.length ≤ i ∧
      Done S Γ .fresh 1 own1 μ1 ρ σ H1 Q ((compL mg mt me (wipeE ρ vs) (ds.drop i) s').bind fun ys s2 => .ok (.lst (acc ++ ys)) s2), ⟨ds.length, ?_, Nat.zero_le _, ?_⟩, ?_⟩
  · simp
  · refine ⟨own1, μ1, s1, [], [], ?_, Ext.refl.updT hp, List.prefix_refl _, lp, upd_same, .nil, Nat.zero_le _, ?_⟩
    · exact (R1.grow (Grow.upd hp)).sto
    · exact hd1
  · rintro i m H' ⟨rfl, hil, own', μ', s', acc, vs', so, ex, mm, lp', hp', ra, hal, dn⟩
    have kp : Keeps own1 own' H1 H' := ex.keeps
    obtain ⟨ig, is⟩ := it.2 i own' μ' H' kp mm
    by_cases hlt : i < ds.length
    · right
      have hget : ds[i]? = some ds[i] := List.getElem?_eq_getElem hlt
      obtain ⟨go, yl⟩ := ig _ hget
      rw [List.drop_eq_getElem_cons hlt] at dn
      unfold compL at dn
      refine ⟨go, fun H'' => ∃ (own' : Own) (μ' : List Addr) (s' : Sto) (acc : List D) (vs' : List V), StoOk S.B S.K μ' own' s' H'' ∧ Ext own1 H1 own' H'' ∧ μ1 <+: μ' ∧ own' p = .tmp ∧ H'' p = some (.lst vs') ∧ Reps S.K μ' own' H'' acc vs' ∧ acc.length ≤ i + 1 ∧
        Done S Γ .fresh 1 own1 μ1 ρ σ H1 Q ((compL mg mt me (wipeE ρ vs) (ds.drop (i + 1)) s').bind fun ys s2 => .ok (.lst (acc ++ ys)) s2), fun H'' w => ⟨ds.length - (i + 1), by omega, rfl, hlt, w⟩, fun x H2 y => ?_⟩
      obtain ⟨gr, rx⟩ := yl x H2 y
      have R2 : Rel S.B S.K Γ own' μ' ρ s' σ H2 := (R1.after ex mm so).grow gr
      have ex2 : Ext own1 H1 own' H2 := ex.trans gr.ext
      cases qg : mg ds[i] (wipeE ρ vs) with
      | none => rw [qg] at dn; exact dn.elim
      | some ρ1 =>
      simp only [qg] at dn
      refine hg own' μ' (wipeE ρ vs) s' (wipe σ vs) H2 _ x ρ1 _ (R2.wiped vs) rx qg fun σ2 Rg cg => ⟨?_, ?_⟩
      · rw [wipe_chg cg hw]
      · refine ht own' μ' ρ1 s' σ2 H2 _ Rg ?_
        rcases nox_cases (mt ρ1 s') with ⟨b, s2, e, e'⟩ | e'
        · rw [e]
          simp only [e', Res.bind] at dn
          intro own3 μ3 H3 R3 e3 m3
          have hp3 : H3 p = some (.lst vs') := e3.obj p _ (gr p _ hp') (fun n => by rw [lp']; intro z; cases z)
          have lp3 : own3 p = .tmp := (e3.lab p _ (gr p _ hp')).trans lp'
          cases b with
          | false =>
            simp only [Bool.false_eq_true, if_false] at dn
            rw [if_neg Bool.false_ne_true]
            exact ⟨own3, μ3, s2, acc, vs', R3.sto, ex2.trans e3, mm.trans m3, lp3, hp3, ra.keep ((Grow.keeps gr).trans e3.keeps) m3, Nat.le_succ_of_le hal, dn⟩
          | true =>
            simp only [if_true] at dn
            rw [if_pos rfl]
            refine he own3 μ3 ρ1 s2 σ2 H3 _ R3 ?_
            rcases nox_cases (me ρ1 s2) with ⟨yd, s3, f, f'⟩ | f'
            · rw [f]
              simp only [f', Res.bind] at dn
              intro own4 μ4 yv H4 R4 e4 m4 ry
              have hp4 : H4 p = some (.lst vs') := e4.obj p _ hp3 (fun n => by rw [lp3]; intro z; cases z)
              have lp4 : own4 p = .tmp := (e4.lab p _ hp3).trans lp3
              have ra4 : Reps S.K μ4 own4 H4 acc vs' := ra.keep ((Grow.keeps gr).trans (e3.keeps.trans e4.keeps)) (m3.trans m4)
              have kp4 : Keeps own4 own4 H4 (upd H4 p (.lst (vs' ++ [yv]))) := keeps_tmp lp4 hp4 (by intro _ z; cases z) (by intro _ _ z; cases z)
              refine ⟨vs', hp4, by rw [← ra4.length]; exact Nat.lt_of_le_of_lt hal (Nat.lt_of_lt_of_le hlt it.1), own4, μ4, s3, acc ++ [yd], vs' ++ [yv], R4.sto.updT lp4 hp4, ((ex2.trans e3).trans e4).updT hp, (mm.trans m3).trans m4, lp4, upd_same, (ra4.append (Reps.one ry)).keep kp4 (List.prefix_refl _), by rw [List.length_append, List.length_singleton]; omega, ?_⟩
              cases qc : compL mg mt me (wipeE ρ vs) (ds.drop (i + 1)) s3 with
              | no => rw [qc] at dn; exact dn
              | ex z t => rw [qc] at dn; exact dn
              | ok ys t =>
                rw [qc] at dn
                simp only [Res.bind] at dn ⊢
                rw [List.append_assoc]
                exact dn
            · simp only [f', Res.bind] at dn; exact dn.elim
        · simp only [e', Res.bind] at dn; exact dn.elim
    · left
      have hi : i = ds.length := by omega
      subst hi
      refine ⟨is (Nat.le_refl _), ?_⟩
      rw [List.drop_length] at dn
      simp only [compL, Res.bind, List.append_nil] at dn
      refine dn own' μ' (.ref p) H' (R1.after ex mm so) ex mm ?_
      exact RepK.newL (k := 0) hp' ⟨lp', hp⟩ ra (Nat.le_trans hal it.1)
end
end M
/-! M5: statements. -/
namespace M
open PySem PySem.Spec PyProof.Rows L2

/-! ### the plain functions -/
def sNext : MS := fun ρ s => .ok (.nx ρ) s
def sSeq (a b : MS) : MS := fun ρ s => (a ρ s).bind fun o s1 => match o with
  | .nx ρ1 => b ρ1 s1
  | .rt d => .ok (.rt d) s1
  | .bk ρ1 => .ok (.bk ρ1) s1
  | .ct ρ1 => .ok (.ct ρ1) s1
def sSet (i : Nat) (m : ME) : MS := fun ρ s => (m ρ s).bind fun d s1 => .ok (.nx (ρ.set i (some d))) s1
def sAsg (m : ME) (mg : MG) : MS := fun ρ s => (m ρ s).bind fun d s1 => match mg d ρ with
  | some ρ1 => .ok (.nx ρ1) s1
  | none => .no
def sPar (i j : Nat) (ms : List ME) : MS := fun ρ s => (evs ms ρ s).bind fun ds s1 => match ds with
  | [d, e] => .ok (.nx ((ρ.set i (some d)).set j (some e))) s1
  | _ => .no
def sDrop (m : ME) : MS := fun ρ s => (m ρ s).bind fun _ s1 => .ok (.nx ρ) s1
def sRet (m : ME) : MS := fun ρ s => (m ρ s).bind fun d s1 => .ok (.rt d) s1
def sRetN : MS := fun _ s => .ok (.rt .non) s
def sIf (c : MT) (a b : MS) : MS := fun ρ s => (c ρ s).bind fun t s1 => if t then a ρ s1 else b ρ s1
def sBrk : MS := fun ρ s => .ok (.bk ρ) s
def sCnt : MS := fun ρ s => .ok (.ct ρ) s
def sAug (i : Nat) (f : D → D → Option D) (m : ME) : MS := fun ρ s => match ρ[i]? with
  | some (some x) => (m ρ s).bind fun y s1 => match f x y with
    | some z => .ok (.nx (ρ.set i (some z))) s1
    | none => .no
  | _ => .no
def forD (mg : MG) (b : MS) : List D → MS
  | [] => fun ρ s => .ok (.nx ρ) s
  | d :: ds => fun ρ s => match mg d ρ with
    | none => .no
    | some ρ1 => (b ρ1 s).bind fun o s1 => match o with
      | .nx ρ2 => forD mg b ds ρ2 s1
      | .ct ρ2 => forD mg b ds ρ2 s1
      | .bk ρ2 => .ok (.nx ρ2) s1
      | .rt d => .ok (.rt d) s1
def sFor (mi : MI) (mg : MG) (b : MS) : MS := fun ρ s => (mi ρ s).bind fun ds s1 => forD mg b ds ρ s1
def whileD (c : MT) (b : MS) : Nat → MS
  | 0 => fun _ _ => .no
  | n + 1 => fun ρ s => (c ρ s).bind fun t s1 => if t then (b ρ s1).bind fun o s2 => match o with
      | .nx ρ2 => whileD c b n ρ2 s2
      | .ct ρ2 => whileD c b n ρ2 s2
      | .bk ρ2 => .ok (.nx ρ2) s2
      | .rt d => .ok (.rt d) s2
    else .ok (.nx ρ) s1
/-- x.append(e), x a local list of one's own -/
def sApp (i : Nat) (m : ME) : MS := fun ρ s => match ρ[i]? with
  | some (some (.lst ds)) => (m ρ s).bind fun d s1 => if ds.length < sizeLine then .ok (.nx (ρ.set i (some (.lst (ds ++ [d]))))) s1 else .no
  | _ => .no

/-! ### simulation -/
structure Gam where
  nx : List Nat
  bk : List Nat
  ct : List Nat
  r : Nat
section
variable (S : Srd) (G : Gam)
def DoneS (own0 : Own) (B : Hp) (own : Own) (μ : List Addr) (H : Hp) (D : Ends) : Res Out → Prop
  | .ok (.nx ρ') s' => ∀ own' μ' σ' H', Rel S.B S.K G.nx own' μ' ρ' s' σ' H' → Ext own0 B own' H' → Keeps own own' H H' → μ <+: μ' → D.nx σ' H'
  | .ok (.bk ρ') s' => ∀ own' μ' σ' H', Rel S.B S.K G.bk own' μ' ρ' s' σ' H' → Ext own0 B own' H' → Keeps own own' H H' → μ <+: μ' → D.bk σ' H'
  | .ok (.ct ρ') s' => ∀ own' μ' σ' H', Rel S.B S.K G.ct own' μ' ρ' s' σ' H' → Ext own0 B own' H' → Keeps own own' H H' → μ <+: μ' → D.ct σ' H'
  | .ok (.rt d) s' => ∀ own' μ' v H', StoOk S.B S.K μ' own' s' H' → Ext own0 B own' H' → Keeps own own' H H' → μ <+: μ' → RepK S.K μ' own' H' G.r (fun a => own' a = .tmp) d v → D.rt v H'
  | .ex e s' => ∀ own' μ' H' c x, StoOk S.B S.K μ' own' s' H' → Ext own0 B own' H' → Keeps own own' H H' → μ <+: μ' → RepX S.K μ' own' H' S.CA e c x → S.E c x H'
  | .no => False
def SimS (Γ : List Nat) (t : TS) (m : MS) : Prop := ∀ own0 B own μ ρ s σ H D, EntryL own0 B → Rel S.B S.K Γ own μ ρ s σ H → Ext own0 B own H → DoneS S G own0 B own μ H D (m ρ s) → t D σ H
end
section
variable {S : Srd} {G : Gam} {Γ : List Nat} {g : Tag} {k : Nat} {X : Cx}
theorem DoneS.step {own0 own own1 : Own} {B H H1 : Hp} {μ μ1 : List Addr} {D : Ends} (kp : Keeps own own1 H H1) (m : μ <+: μ1) : ∀ {r : Res Out}, DoneS S G own0 B own μ H D r → DoneS S G own0 B own1 μ1 H1 D r
  | .ok (.nx ρ') s', h => fun own' μ' σ' H' R e k' m' => h own' μ' σ' H' R e (kp.trans k') (m.trans m')
  | .ok (.bk ρ') s', h => fun own' μ' σ' H' R e k' m' => h own' μ' σ' H' R e (kp.trans k') (m.trans m')
  | .ok (.ct ρ') s', h => fun own' μ' σ' H' R e k' m' => h own' μ' σ' H' R e (kp.trans k') (m.trans m')
  | .ok (.rt d) s', h => fun own' μ' v H' R e k' m' => h own' μ' v H' R e (kp.trans k') (m.trans m')
  | .ex e s', h => fun own' μ' H' c x R e k' m' => h own' μ' H' c x R e (kp.trans k') (m.trans m')
  | .no, h => h
/-- an expression within a statement -/
theorem doneS_bind {own0 own : Own} {B H : Hp} {μ : List Addr} {ρ : Env} {σ : St} {D : Ends} {r : Res M.D} {f : M.D → Sto → Res Out} {Q1 : VK} (ex : Ext own0 B own H)
    (hd : DoneS S G own0 B own μ H D (r.bind f)) (hn : ∀ d s1 own1 μ1 v H1, Rel S.B S.K Γ own1 μ1 ρ s1 σ H1 → Ext own0 B own1 H1 → Ext own H own1 H1 → μ <+: μ1 → RepK S.K μ1 own1 H1 k (g.P own1 H) d v → DoneS S G own0 B own1 μ1 H1 D (f d s1) → Q1 v H1) :
    Done S Γ g k own μ ρ σ H Q1 r := by
  cases r with
  | no => exact hd
  | ex e s' => exact fun own1 μ1 H1 c x R1 e1 m1 rx => hd own1 μ1 H1 c x R1.sto (ex.trans e1) e1.keeps m1 rx
  | ok d s1 => exact fun own1 μ1 v H1 R1 e1 m1 r1 => hn d s1 own1 μ1 v H1 R1 (ex.trans e1) e1 m1 r1 (DoneS.step e1.keeps m1 hd)
theorem doneST_bind {own0 own : Own} {B H : Hp} {μ : List Addr} {ρ : Env} {σ : St} {D : Ends} {r : Res Bool} {f : Bool → Sto → Res Out} {Q1 : Bool → Hp → Prop} (ex : Ext own0 B own H)
    (hd : DoneS S G own0 B own μ H D (r.bind f)) (hn : ∀ d s1 own1 μ1 H1, Rel S.B S.K Γ own1 μ1 ρ s1 σ H1 → Ext own0 B own1 H1 → Ext own H own1 H1 → μ <+: μ1 → DoneS S G own0 B own1 μ1 H1 D (f d s1) → Q1 d H1) :
    DoneT S Γ own μ ρ σ H Q1 r := by
  cases r with
  | no => exact hd
  | ex e s' => exact fun own1 μ1 H1 c x R1 e1 m1 rx => hd own1 μ1 H1 c x R1.sto (ex.trans e1) e1.keeps m1 rx
  | ok d s1 => exact fun own1 μ1 H1 R1 e1 m1 => hn d s1 own1 μ1 H1 R1 (ex.trans e1) e1 m1 (DoneS.step e1.keeps m1 hd)
theorem doneSA_bind {own0 own : Own} {B H : Hp} {μ : List Addr} {ρ : Env} {σ : St} {D : Ends} {r : Res (List M.D)} {f : List M.D → Sto → Res Out} {Q1 : List V → Hp → Prop} (ex : Ext own0 B own H)
    (hd : DoneS S G own0 B own μ H D (r.bind f)) (hn : ∀ d s1 own1 μ1 v H1, Rel S.B S.K Γ own1 μ1 ρ s1 σ H1 → Ext own0 B own1 H1 → Ext own H own1 H1 → μ <+: μ1 → Reps S.K μ1 own1 H1 d v → DoneS S G own0 B own1 μ1 H1 D (f d s1) → Q1 v H1) :
    DoneA S Γ own μ ρ σ H Q1 r := by
  cases r with
  | no => exact hd
  | ex e s' => exact fun own1 μ1 H1 c x R1 e1 m1 rx => hd own1 μ1 H1 c x R1.sto (ex.trans e1) e1.keeps m1 rx
  | ok d s1 => exact fun own1 μ1 v H1 R1 e1 m1 r1 => hn d s1 own1 μ1 v H1 R1 (ex.trans e1) e1 m1 r1 (DoneS.step e1.keeps m1 hd)

/-! ### relabelling -/
/-- of what is one's own some is frozen, or a new value goes to a slot -/
theorem Ext.relab {own0 own own2 : Own} {B H : Hp} (en : EntryL own0 B) (e : Ext own0 B own H) (h : ∀ a, own a = .frz ∨ own a = .out ∨ (∃ n, own a = .cell n) → own2 a = own a) : Ext own0 B own2 H :=
  ⟨e.obj, e.tup, e.frzs, fun a o q => by
    have l := e.lab a o q
    rw [h a ?_]
    · exact l
    · rw [l]; exact en a o q, e.there⟩
theorem StoOk.relab {BB : Bd} {K : PySem.W.Frag} {own own2 : Own} {μ : List Addr} {s : Sto} {H : Hp} (R : StoOk BB K μ own s H) (kp : Keeps own own2 H H) (h : ∀ a n, own a = .cell n → own2 a = own a) (h2 : ∀ a n, own2 a = .cell n → own a = .cell n) (h3 : ∀ a, H a = none → own2 a = own a) : StoOk BB K μ own2 s H :=
  ⟨R.len, fun n c q => let ⟨a, h1, h4, h5⟩ := R.cell n c q; ⟨a, h1, (h a n h4).trans h4, h5.keep kp (List.prefix_refl _) fun o q => q⟩, fun a n q => R.lab a n (h2 a n q), fun a q => (h3 a q).trans (R.fresh a q)⟩
/-- Γ2 owns less -/
def Lower (Γ2 Γ : List Nat) : Prop := ∀ i, Γ2.getD i 0 = Γ.getD i 0 ∨ Γ2.getD i 0 = 0
instance {Γ2 Γ : List Nat} : Decidable (∀ i, i < Γ2.length → (Γ2.getD i 0 = Γ.getD i 0 ∨ Γ2.getD i 0 = 0)) := Nat.decidableBallLT _ _
theorem Lower.of {Γ2 Γ : List Nat} (h : (List.range Γ2.length).all (fun i => Γ2.getD i 0 == Γ.getD i 0 || Γ2.getD i 0 == 0) = true) : Lower Γ2 Γ := fun i => by
  by_cases hi : i < Γ2.length
  · have := List.all_eq_true.mp h i (List.mem_range.mpr hi)
    simpa using this
  · right
    rw [List.getD_eq_getElem?_getD, List.getElem?_eq_none (by omega)]; rfl
open Classical in
theorem Rel.lower {BB : Bd} {K : PySem.W.Frag} {own own0 : Own} {B : Hp} {μ : List Addr} {ρ : Env} {s : Sto} {σ : St} {H : Hp} {Γ2 : List Nat} (R : Rel BB K Γ own μ ρ s σ H) (en : EntryL own0 B) (e : Ext own0 B own H) (l : Lower Γ2 Γ) :
    ∃ own2, Rel BB K Γ2 own2 μ ρ s σ H ∧ Ext own0 B own2 H ∧ Keeps own own2 H H := by
  let own2 : Own := fun a => match own a with
    | .slot i => if Γ2.getD i 0 = 0 then .frz else .slot i
    | x => x
  have l1 : ∀ a, (∀ i, own a ≠ .slot i) → own2 a = own a := fun a h => by
    show (match own a with | .slot i => if Γ2.getD i 0 = 0 then Lab.frz else .slot i | x => x) = own a
    cases q : own a with
    | slot i => exact absurd q (h i)
    | _ => rfl
  have l2 : ∀ a i, own a = .slot i → own2 a = if Γ2.getD i 0 = 0 then .frz else .slot i := fun a i h => by
    show (match own a with | .slot i => if Γ2.getD i 0 = 0 then Lab.frz else .slot i | x => x) = _
    rw [h]
  have kp : Keeps own own2 H H := ⟨fun _ _ h => h, fun _ _ _ h => h, fun a o h e => ⟨h, (l1 a (by rw [e]; intro i z; cases z)).trans e⟩⟩
  refine ⟨own2, ⟨R.len, fun i d h => ?_, R.sto.relab kp (fun a n q => l1 a (by rw [q]; intro i z; cases z)) (fun a n q => ?_) (fun a q => l1 a (by rw [R.sto.fresh a q]; intro i z; cases z))⟩, e.relab en (fun a h => l1 a fun i z => ?_), kp⟩
  · obtain ⟨v, h1, h2⟩ := R.slot i d h
    refine ⟨v, h1, ?_⟩
    rcases l i with q | q
    · rw [q]
      by_cases z : Γ.getD i 0 = 0
      · rw [z] at h2 ⊢; exact Rep.keep kp (List.prefix_refl _) h2
      · exact h2.keep kp (List.prefix_refl _) fun a o p r => ⟨by rw [l2 a i p, q, if_neg z], r⟩
    · rw [q]
      exact h2.freeze kp fun a o p r => by rw [l2 a i p, if_pos q]
  · cases z : own a with
    | slot i => rw [l2 a i z] at q; split at q <;> cases q
    | cell m => rw [l1 a (by rw [z]; intro i y; cases y), z] at q; exact q
    | frz => rw [l1 a (by rw [z]; intro i y; cases y), z] at q; exact q
    | tmp => rw [l1 a (by rw [z]; intro i y; cases y), z] at q; exact q
    | out => rw [l1 a (by rw [z]; intro i y; cases y), z] at q; exact q
  · rcases h with h | h | ⟨n, h⟩ <;> (rw [z] at h; cases h)
theorem sim_in {Γ2 : List Nat} {t : TS} {m : MS} (h : SimS S G Γ2 t m) (l : Lower Γ2 Γ) : SimS S G Γ t m := fun own0 B own μ ρ s σ H D en R ex hd => by
  obtain ⟨own2, R2, ex2, kp⟩ := R.lower en ex l
  exact h own0 B own2 μ ρ s σ H D en R2 ex2 (DoneS.step kp (List.prefix_refl _) hd)
theorem sim_out {G' : Gam} {t : TS} {m : MS} (h : SimS S G Γ t m) (l : Lower G'.nx G.nx) (lb : Lower G'.bk G.bk) (lc : Lower G'.ct G.ct) (hr : G.r = G'.r) : SimS S G' Γ t m := fun own0 B own μ ρ s σ H D en R ex hd => by
  refine h own0 B own μ ρ s σ H D en R ex ?_
  cases q : m ρ s with
  | no => rw [q] at hd; exact hd
  | ex e s' => rw [q] at hd; exact hd
  | ok o s' =>
    rw [q] at hd
    cases o with
    | rt d =>
      intro own' μ' v H' so e kp mm rv
      rw [hr] at rv
      exact hd own' μ' v H' so e kp mm rv
    | nx ρ' =>
      intro own' μ' σ' H' R' e kp mm
      obtain ⟨own2, R2, ex2, kp2⟩ := R'.lower en e l
      exact hd own2 μ' σ' H' R2 ex2 (kp.trans kp2) mm
    | bk ρ' =>
      intro own' μ' σ' H' R' e kp mm
      obtain ⟨own2, R2, ex2, kp2⟩ := R'.lower en e lb
      exact hd own2 μ' σ' H' R2 ex2 (kp.trans kp2) mm
    | ct ρ' =>
      intro own' μ' σ' H' R' e kp mm
      obtain ⟨own2, R2, ex2, kp2⟩ := R'.lower en e lc
      exact hd own2 μ' σ' H' R2 ex2 (kp.trans kp2) mm

/-! ### blocks -/
theorem sim_next {b c : List Nat} {r : Nat} : SimS S ⟨Γ, b, c, r⟩ Γ tNext sNext := fun own0 B own μ ρ s σ H D en R ex hd => hd own μ σ H R ex .refl (List.prefix_refl _)
theorem sim_seq {Γ1 Γ2 b c : List Nat} {r : Nat} {t u : TS} {m n : MS} (h1 : SimS S ⟨Γ1, b, c, r⟩ Γ t m) (h2 : SimS S ⟨Γ2, b, c, r⟩ Γ1 u n) : SimS S ⟨Γ2, b, c, r⟩ Γ (tSeq t u) (sSeq m n) := fun own0 B own μ ρ s σ H D en R ex hd => by
  refine h1 own0 B own μ ρ s σ H _ en R ex ?_
  unfold sSeq at hd
  cases q : m ρ s with
  | no => rw [q] at hd; exact hd
  | ex e s' => rw [q] at hd; exact hd
  | ok o s' =>
    rw [q] at hd
    cases o with
    | nx ρ' => exact fun own' μ' σ' H' R' e kp mm => h2 own0 B own' μ' ρ' s' σ' H' D en R' e (DoneS.step kp mm hd)
    | rt d => exact hd
    | bk ρ' => exact hd
    | ct ρ' => exact hd
theorem sim_brk {a c : List Nat} {r : Nat} : SimS S ⟨a, Γ, c, r⟩ Γ tBreak sBrk := fun own0 B own μ ρ s σ H D en R ex hd => hd own μ σ H R ex .refl (List.prefix_refl _)
theorem sim_cnt {a b : List Nat} {r : Nat} : SimS S ⟨a, b, Γ, r⟩ Γ tCont sCnt := fun own0 B own μ ρ s σ H D en R ex hd => hd own μ σ H R ex .refl (List.prefix_refl _)
theorem sim_drop {b c : List Nat} {r : Nat} {t : TE} {m : ME} (h : SimE S Γ g k t m) : SimS S ⟨Γ, b, c, r⟩ Γ (tDrop t) (sDrop m) := fun own0 B own μ ρ s σ H D en R ex hd =>
  h own μ ρ s σ H _ R (doneS_bind ex hd fun d s1 own1 μ1 v H1 R1 ex1 e1 m1 r1 hd1 => hd1 own1 μ1 σ H1 R1 ex1 .refl (List.prefix_refl _))
theorem sim_if {t : TT} {a b : TS} {c : MT} {m n : MS} (hc : SimT S Γ t c) (ha : SimS S G Γ a m) (hb : SimS S G Γ b n) : SimS S G Γ (tIfS t a b) (sIf c m n) := fun own0 B own μ ρ s σ H D en R ex hd =>
  hc own μ ρ s σ H _ R (doneST_bind ex hd fun z s1 own1 μ1 H1 R1 ex1 e1 m1 hd1 => by
    cases z with
    | true => exact iteT (ha own0 B own1 μ1 ρ s1 σ H1 D en R1 ex1 hd1)
    | false => exact iteF (hb own0 B own1 μ1 ρ s1 σ H1 D en R1 ex1 hd1))
/-- the labels where a new value comes to a slot -/
theorem Rel.take {BB : Bd} {K : PySem.W.Frag} {own own0 : Own} {B : Hp} {μ : List Addr} {ρ : Env} {s : Sto} {σ : St} {H : Hp} {i : Nat} {d : D} {v : V} (R : Rel BB K Γ own μ ρ s σ H) (en : EntryL own0 B) (e : Ext own0 B own H) (hi : i < Γ.length)
    (r : RepK K μ own H k (fun a => own a = .tmp) d v) : ∃ own2, Rel BB K (Γ.set i k) own2 μ (ρ.set i (some d)) s (σ.set i (some v)) H ∧ Ext own0 B own2 H ∧ Keeps own own2 H H := by
  classical
  let own2 : Own := fun a => if own a = .tmp ∧ H a ≠ none then .slot i else own a
  have l1 : ∀ a, own a ≠ .tmp → own2 a = own a := fun a h => if_neg fun z => h z.1
  have kp : Keeps own own2 H H := ⟨fun _ _ h => h, fun _ _ _ h => h, fun a o h e => ⟨h, (l1 a (by rw [e]; intro z; cases z)).trans e⟩⟩
  have R2 : Rel BB K Γ own2 μ ρ s σ H := by
    refine ⟨R.len, fun j d h => ?_, R.sto.relab kp (fun a n q => l1 a (by rw [q]; intro z; cases z)) (fun a n q => ?_) (fun a q => if_neg fun z => z.2 q)⟩
    · obtain ⟨v, h1, h2⟩ := R.slot j d h
      exact ⟨v, h1, h2.keep kp (List.prefix_refl _) fun a o p q => ⟨(l1 a (by rw [p]; intro z; cases z)).trans p, q⟩⟩
    · by_cases c : own a = .tmp ∧ H a ≠ none
      · have : own2 a = .slot i := if_pos c
        rw [this] at q; cases q
      · have : own2 a = own a := if_neg c
        rw [this] at q; exact q
  refine ⟨own2, R2.set hi (r.keep kp (List.prefix_refl _) fun a o p q => ⟨if_pos ⟨p, by rw [q]; intro z; cases z⟩, q⟩), e.relab en fun a h => l1 a fun z => ?_, kp⟩
  rcases h with h | h | ⟨n, h⟩ <;> (rw [z] at h; cases h)
theorem sim_set {b c : List Nat} {r i : Nat} {t : TE} {m : ME} (h : SimE S Γ .fresh k t m) (hi : i < Γ.length) : SimS S ⟨Γ.set i k, b, c, r⟩ Γ (tAsg t (gName i)) (sSet i m) := fun own0 B own μ ρ s σ H D en R ex hd =>
  h own μ ρ s σ H _ R (doneS_bind ex hd fun d s1 own1 μ1 v H1 R1 ex1 e1 m1 r1 hd1 => by
    obtain ⟨own2, R2, ex2, kp⟩ := R1.take en ex1 hi (r1.imp fun a p => p.1)
    exact hd1 own2 μ1 _ H1 R2 ex2 kp (List.prefix_refl _))
theorem sim_asg {Γ1 ws b c : List Nat} {r : Nat} {t : TE} {tg : TG} {m : ME} {mg : MG} (h : SimE S Γ g 0 t m) (hg : SimG S Γ Γ1 ws tg mg) : SimS S ⟨Γ1, b, c, r⟩ Γ (tAsg t tg) (sAsg m mg) := fun own0 B own μ ρ s σ H D en R ex hd =>
  h own μ ρ s σ H _ R (doneS_bind ex hd fun d s1 own1 μ1 v H1 R1 ex1 e1 m1 r1 hd1 => by
    cases q : mg d ρ with
    | none => rw [q] at hd1; exact hd1.elim
    | some ρ1 =>
      rw [q] at hd1
      exact hg own1 μ1 ρ s1 σ H1 d v ρ1 _ R1 r1 q fun σ' R' _ => hd1 own1 μ1 σ' H1 R' ex1 .refl (List.prefix_refl _))
theorem sim_par {b c : List Nat} {r i j : Nat} {t : TA} {ms : List ME} (h : SimA S Γ t (evs ms)) (hi : i < Γ.length) (hj : j < Γ.length) : SimS S ⟨(Γ.set i 0).set j 0, b, c, r⟩ Γ (tPar i j t) (sPar i j ms) := fun own0 B own μ ρ s σ H D en R ex hd =>
  h own μ ρ s σ H _ R (doneSA_bind ex hd fun ds s1 own1 μ1 vs H1 R1 ex1 e1 m1 r1 hd1 => by
    split at hd1
    · rename_i d e
      obtain ⟨v, u, rfl, h1, h2⟩ := reps2 r1
      refine ⟨v, u, rfl, hd1 own1 μ1 _ H1 ((R1.set (k := 0) hi h1).set (k := 0) (by rw [List.length_set]; exact hj) h2) ex1 .refl (List.prefix_refl _)⟩
    · exact hd1.elim)
theorem sim_aug {b c : List Nat} {r i k2 : Nat} {t : TE} {m : ME} {ti : TIp} {f : D → D → Option D} (ho : Op2 S 0 k2 0 ti f) (h : SimE S Γ g k2 t m) (hk : Γ.getD i 0 = 0) (hi : i < Γ.length) : SimS S ⟨Γ.set i 0, b, c, r⟩ Γ (tAug i t ti) (sAug i f m) := fun own0 B own μ ρ s σ H D en R ex hd => by
  unfold sAug at hd
  split at hd
  · rename_i x e
    obtain ⟨v, h1, h2⟩ := R.slot i x e
    rw [hk] at h2
    refine ⟨v, h1, h own μ ρ s σ H _ R (doneS_bind ex hd fun y s1 own1 μ1 u H1 R1 ex1 e1 m1 r1 hd1 => ?_)⟩
    cases q : f x y with
    | none => rw [q] at hd1; exact hd1.elim
    | some z =>
      rw [q] at hd1
      refine ho μ1 own1 H1 v u x y z _ R1.sto.fresh (Rep.ext h2 e1 m1) (r1.imp fun a p => Tag.P_nc p) q fun w H2 gr rw' => ?_
      exact hd1 own1 μ1 _ H2 ((R1.grow gr).set (k := 0) hi rw') (ex1.trans gr.ext) gr.keeps (List.prefix_refl _)
  · exact hd.elim

/-! ### return -/
theorem sim_ret {a b c : List Nat} {t : TE} {m : ME} (h : SimE S Γ .fresh k t m) : SimS S ⟨a, b, c, k⟩ Γ (tRet t) (sRet m) := fun own0 B own μ ρ s σ H D en R ex hd =>
  h own μ ρ s σ H _ R (doneS_bind ex hd fun d s1 own1 μ1 v H1 R1 ex1 e1 m1 r1 hd1 => hd1 own1 μ1 v H1 R1.sto ex1 .refl (List.prefix_refl _) (r1.imp fun a p => p.1))
theorem sim_retN {a b c : List Nat} {r : Nat} : SimS S ⟨a, b, c, r⟩ Γ tRetN sRetN := fun own0 B own μ ρ s σ H D en R ex hd => hd own μ .non H R.sto ex .refl (List.prefix_refl _) (RepK.of .non rfl)
/-- a local list of one's own is handed back -/
theorem sim_retV {a b c : List Nat} {i : Nat} (hk : Γ.getD i 0 = k) : SimS S ⟨a, b, c, k⟩ Γ (tRet (tVar i)) (sRet (eV i)) := fun own0 B own μ ρ s σ H D en R ex hd => by
  classical
  unfold sRet eV at hd
  split at hd
  · rename_i d e
    obtain ⟨v, h1, h2⟩ := R.slot i d e
    rw [hk] at h2
    let own2 : Own := fun a => match own a with
      | .slot _ => .tmp
      | x => x
    have l1 : ∀ a, (∀ j, own a ≠ .slot j) → own2 a = own a := fun a h => by
      show (match own a with | .slot _ => Lab.tmp | x => x) = own a
      cases q : own a with
      | slot j => exact absurd q (h j)
      | _ => rfl
    have l2 : ∀ a j, own a = .slot j → own2 a = .tmp := fun a j h => by
      show (match own a with | .slot _ => Lab.tmp | x => x) = _
      rw [h]
    have kp : Keeps own own2 H H := ⟨fun _ _ h => h, fun _ _ _ h => h, fun a o h e => ⟨h, (l1 a (by rw [e]; intro i z; cases z)).trans e⟩⟩
    refine ⟨v, h1, hd own2 μ v H (R.sto.relab kp (fun a n q => l1 a (by rw [q]; intro i z; cases z)) (fun a n q => ?_) (fun a q => l1 a (by rw [R.sto.fresh a q]; intro i z; cases z))) (ex.relab en fun a h => l1 a fun j z => ?_) kp (List.prefix_refl _)
      (h2.keep kp (List.prefix_refl _) fun a o p q => ⟨l2 a i p, q⟩)⟩
    · cases z : own a with
      | slot j => rw [l2 a j z] at q; cases q
      | cell m => rw [l1 a (by rw [z]; intro i y; cases y), z] at q; exact q
      | frz => rw [l1 a (by rw [z]; intro i y; cases y), z] at q; exact q
      | tmp => rw [l1 a (by rw [z]; intro i y; cases y), z] at q; exact q
      | out => rw [l1 a (by rw [z]; intro i y; cases y), z] at q; exact q
    · rcases h with h | h | ⟨n, h⟩ <;> (rw [z] at h; cases h)
  · exact hd.elim

/-! ### loops -/
theorem sim_for {Γ1 ws b c : List Nat} {r : Nat} {wi : TI} {tg : TG} {tb : TS} {mi : MI} {mg : MG} {mb : MS} (hi : SimI S Γ wi mi) (hg : SimG S Γ Γ1 ws tg mg) (hb : SimS S ⟨Γ, Γ, Γ, r⟩ Γ1 tb mb) : SimS S ⟨Γ, b, c, r⟩ Γ (tFor wi tg tb) (sFor mi mg mb) := fun own0 B own μ ρ s σ H D en R ex hd => by
  refine hi own μ ρ s σ H _ R ?_
  unfold sFor at hd
  cases q : mi ρ s with
  | no => rw [q] at hd; exact hd
  | ex e s' => rw [q] at hd; exact fun own1 μ1 H1 c x R1 e1 m1 rx => hd own1 μ1 H1 c x R1.sto (ex.trans e1) e1.keeps m1 rx
  | ok ds s1 =>
  rw [q] at hd
  intro own1 μ1 J H1 R1 e1 m1 it
  have hd1 : DoneS S ⟨Γ, b, c, r⟩ own0 B own1 μ1 H1 D (forD mg mb ds ρ s1) := DoneS.step e1.keeps m1 hd
  refine ⟨fun i m σ' H' => m = ds.length - i ∧ i ≤ ds.length ∧ ∃ (own' : Own) (μ' : List Addr) (ρ' : Env) (s' : Sto), Rel S.B S.K Γ own' μ' ρ' s' σ' H' ∧ Ext own0 B own' H' ∧ Keeps own1 own' H1 H' ∧ μ1 <+: μ' ∧ DoneS S ⟨Γ, b, c, r⟩ own0 B own1 μ1 H1 D (forD mg mb (ds.drop i) ρ' s'),
    ⟨ds.length, by simp, Nat.zero_le _, own1, μ1, ρ, s1, R1, ex.trans e1, .refl, List.prefix_refl _, hd1⟩, ?_⟩
  rintro i m σ' H' ⟨rfl, hil, own', μ', ρ', s', R', ex', kp, mm, dn⟩
  obtain ⟨ig, is⟩ := it.2 i own' μ' H' kp mm
  by_cases hlt : i < ds.length
  · right
    have hget : ds[i]? = some ds[i] := List.getElem?_eq_getElem hlt
    obtain ⟨go, yl⟩ := ig _ hget
    rw [List.drop_eq_getElem_cons hlt] at dn
    unfold forD at dn
    refine ⟨go, fun σ' H' => ∃ (own' : Own) (μ' : List Addr) (ρ' : Env) (s' : Sto), Rel S.B S.K Γ own' μ' ρ' s' σ' H' ∧ Ext own0 B own' H' ∧ Keeps own1 own' H1 H' ∧ μ1 <+: μ' ∧ DoneS S ⟨Γ, b, c, r⟩ own0 B own1 μ1 H1 D (forD mg mb (ds.drop (i + 1)) ρ' s'),
      fun σ2 H2 w => ⟨ds.length - (i + 1), by omega, rfl, hlt, w⟩, fun x H2 y => ?_⟩
    obtain ⟨gr, rx⟩ := yl x H2 y
    cases qg : mg ds[i] ρ' with
    | none => rw [qg] at dn; exact dn.elim
    | some ρ1 =>
    simp only [qg] at dn
    refine hg own' μ' ρ' s' σ' H2 _ x ρ1 _ (R'.grow gr) rx qg fun σ2 Rg cg => ?_
    refine hb own0 B own' μ' ρ1 s' σ2 H2 _ en Rg (ex'.trans gr.ext) ?_
    have kp2 : Keeps own1 own' H1 H2 := kp.trans gr.keeps
    have dn2 := DoneS.step kp2 mm dn
    cases qb : mb ρ1 s' with
    | no => rw [qb] at dn2; exact dn2
    | ex e t => rw [qb] at dn2; exact dn2
    | ok o t =>
      rw [qb] at dn dn2
      cases o with
      | nx ρ3 => exact fun own3 μ3 σ3 H3 R3 ex3 kp3 m3 => ⟨own3, μ3, ρ3, t, R3, ex3, kp2.trans kp3, mm.trans m3, dn⟩
      | ct ρ3 => exact fun own3 μ3 σ3 H3 R3 ex3 kp3 m3 => ⟨own3, μ3, ρ3, t, R3, ex3, kp2.trans kp3, mm.trans m3, dn⟩
      | bk ρ3 => exact dn2
      | rt d => exact dn2
  · left
    have hi : i = ds.length := by omega
    subst hi
    refine ⟨is (Nat.le_refl _), ?_⟩
    rw [List.drop_length] at dn
    exact dn own' μ' σ' H' R' ex' kp mm
theorem sim_while {b c : List Nat} {r n : Nat} {tc : TT} {tb : TS} {mc : MT} {mb : MS} (hc : SimT S Γ tc mc) (hb : SimS S ⟨Γ, Γ, Γ, r⟩ Γ tb mb) : SimS S ⟨Γ, b, c, r⟩ Γ (tWhile tc tb) (whileD mc mb n) := fun own0 B own μ ρ s σ H D en R ex hd => by
  refine ⟨fun m σ' H' => ∃ (own' : Own) (μ' : List Addr) (ρ' : Env) (s' : Sto), Rel S.B S.K Γ own' μ' ρ' s' σ' H' ∧ Ext own0 B own' H' ∧ Keeps own own' H H' ∧ μ <+: μ' ∧ DoneS S ⟨Γ, b, c, r⟩ own0 B own μ H D (whileD mc mb m ρ' s'),
    ⟨n, own, μ, ρ, s, R, ex, .refl, List.prefix_refl _, hd⟩, ?_⟩
  rintro m σ' H' ⟨own', μ', ρ', s', R', ex', kp, mm, dn⟩
  cases m with
  | zero => exact dn.elim
  | succ m =>
  unfold whileD at dn
  have dn1 := DoneS.step kp mm dn
  refine hc own' μ' ρ' s' σ' H' _ R' ?_
  cases q : mc ρ' s' with
  | no => rw [q] at dn1; exact dn1
  | ex e t => rw [q] at dn1; exact fun own1 μ1 H1 c x R1 e1 m1 rx => dn1 own1 μ1 H1 c x R1.sto (ex'.trans e1) e1.keeps m1 rx
  | ok z s1 =>
  rw [q] at dn dn1
  intro own1 μ1 H1 R1 e1 m1
  have k1 : Keeps own own1 H H1 := kp.trans e1.keeps
  have mm1 : μ <+: μ1 := mm.trans m1
  cases z with
  | false =>
    rw [if_neg Bool.false_ne_true]
    exact dn own1 μ1 σ' H1 R1 (ex'.trans e1) k1 mm1
  | true =>
    rw [if_pos rfl]
    refine ⟨fun σ' H' => ∃ (own' : Own) (μ' : List Addr) (ρ' : Env) (s' : Sto), Rel S.B S.K Γ own' μ' ρ' s' σ' H' ∧ Ext own0 B own' H' ∧ Keeps own own' H H' ∧ μ <+: μ' ∧ DoneS S ⟨Γ, b, c, r⟩ own0 B own μ H D (whileD mc mb m ρ' s'), fun σ2 H2 w => ⟨m, Nat.lt_succ_self m, w⟩, ?_⟩
    refine hb own0 B own1 μ1 ρ' s1 σ' H1 _ en R1 (ex'.trans e1) ?_
    have dn2 := DoneS.step k1 mm1 dn
    simp only [Res.bind, if_true] at dn dn2
    cases qb : mb ρ' s1 with
    | no => rw [qb] at dn2; exact dn2
    | ex e t => rw [qb] at dn2; exact dn2
    | ok o t =>
      rw [qb] at dn dn2
      cases o with
      | nx ρ3 => exact fun own3 μ3 σ3 H3 R3 ex3 kp3 m3 => ⟨own3, μ3, ρ3, t, R3, ex3, k1.trans kp3, mm1.trans m3, dn⟩
      | ct ρ3 => exact fun own3 μ3 σ3 H3 R3 ex3 kp3 m3 => ⟨own3, μ3, ρ3, t, R3, ex3, k1.trans kp3, mm1.trans m3, dn⟩
      | bk ρ3 => exact dn2
      | rt d => exact dn2
/-! ### a local list of one's own is lengthened -/
theorem Rel.wrote {BB : Bd} {K : PySem.W.Frag} {own own0 : Own} {B : Hp} {μ : List Addr} {ρ : Env} {s : Sto} {σ : St} {H : Hp} {i : Nat} {a : Addr} {ds : List D} {vs : List V} {vs0 : List V} (R : Rel BB K Γ own μ ρ s σ H) (en : EntryL own0 B) (e : Ext own0 B own H) (hi : i < Γ.length) (hk : Γ.getD i 0 = 1)
    (la : own a = .slot i) (ha : H a = some (.lst vs0)) (hs : σ[i]? = some (some (.ref a))) (r : Reps K μ own H ds vs) (z : ds.length ≤ sizeLine) :
    Rel BB K Γ own μ (ρ.set i (some (.lst ds))) s σ (upd H a (.lst vs)) ∧ Ext own0 B own (upd H a (.lst vs)) ∧ Keeps own own H (upd H a (.lst vs)) := by
  have kp : Keeps own own H (upd H a (.lst vs)) := by
    have ne : ∀ b u, H b = some u → (∀ ws, u ≠ .lst ws) → b ≠ a := fun b u h n z => by subst z; rw [ha] at h; cases h; exact n _ rfl
    refine ⟨fun b xs h => ?_, fun b c u h => ?_, fun b u h l => ⟨?_, l⟩⟩
    · rw [upd_ne (ne b _ h (by intro _ z; cases z))]; exact h
    · rw [upd_ne (ne b _ h (by intro _ z; cases z))]; exact h
    · rw [upd_ne (fun z => by subst z; rw [la] at l; cases l)]; exact h
  refine ⟨⟨by rw [List.length_set]; exact R.len, fun j d h => ?_, ⟨R.sto.len, fun n c h => ?_, R.sto.lab, fun b h => ?_⟩⟩, ⟨fun b o h n => ?_, fun b xs h => kp.tup b xs (e.tup b xs h), fun b c u h => kp.frzs b c u (e.frzs b c u h), e.lab, fun b o h => ?_⟩, kp⟩
  · by_cases q : j = i
    · subst q
      have hl : j < ρ.length := by
        have := (List.getElem?_eq_some_iff.mp h).1
        rw [List.length_set] at this
        exact this
      rw [List.getElem?_set_self hl] at h
      cases h
      rw [hk]
      exact ⟨.ref a, hs, RepK.newL (k := 0) upd_same la (r.keep kp (List.prefix_refl _)) z⟩
    · rw [List.getElem?_set_ne (Ne.symm q)] at h
      obtain ⟨v, h1, h2⟩ := R.slot j d h
      exact ⟨v, h1, h2.keep kp (List.prefix_refl _) fun b o p r => ⟨p, by rw [upd_ne (fun z => by subst z; rw [la] at p; cases p; exact q rfl)]; exact r⟩⟩
  · obtain ⟨b, h1, h2, h3⟩ := R.sto.cell n c h
    exact ⟨b, h1, h2, h3.keep kp (List.prefix_refl _) fun o r => by rw [upd_ne (fun z => by subst z; rw [la] at h2; cases h2)]; exact r⟩
  · by_cases q : b = a
    · subst q; rw [upd_same] at h; cases h
    · rw [upd_ne q] at h; exact R.sto.fresh b h
  · have hb : b ≠ a := fun z => by
      subst z
      have l := e.lab b o h
      rw [la] at l
      rcases en b o h with x | x | ⟨n, x⟩ <;> (rw [x] at l; cases l)
    rw [upd_ne hb]; exact e.obj b o h n
  · by_cases q : b = a
    · subst q; exact ⟨_, upd_same⟩
    · rw [upd_ne q]; exact e.there b o h
theorem sim_app {b c : List Nat} {r i : Nat} {t : TE} {m : ME} (h : SimE S Γ g 0 t m) (hk : Γ.getD i 0 = 1) (hi : i < Γ.length) : SimS S ⟨Γ, b, c, r⟩ Γ (tDrop (tBM S.K "list" rAppend (tVar i) (tCons t tNil))) (sApp i m) := fun own0 B own μ ρ s σ H D en R ex hd => by
  unfold sApp at hd
  split at hd
  · rename_i ds e
    obtain ⟨v, h1, h2⟩ := R.slot i _ e
    rw [hk] at h2
    rcases h2 with ⟨n, _⟩ | ⟨a, vs, es, e1, e2, la, ha, z, r2, _⟩
    · cases n
    cases e2
    subst e1
    refine ⟨.ref a, h1, .inl ⟨rfl, vs, SqL.of ha⟩, h own μ ρ s σ H _ R (doneS_bind ex hd fun d s1 own1 μ1 u H1 R1 ex1 e1 m1 ru hd1 => ?_)⟩
    split at hd1
    · rename_i hlt
      have ha1 : H1 a = some (.lst vs) := e1.obj a _ ha (fun n => by rw [la]; intro z; cases z)
      have la1 : own1 a = .slot i := (e1.lab a _ ha).trans la
      have rr : Reps S.K μ1 own1 H1 (ds ++ [d]) (vs ++ [u]) := ((All2.reps r2).keep e1.keeps m1).append (Reps.one ru)
      obtain ⟨R2, ex2, kp2⟩ := R1.wrote en ex1 hi hk la1 ha1 h1 rr (by rw [List.length_append, List.length_singleton]; omega)
      exact ⟨a, vs, u, rfl, rfl, ha1, by rw [← (All2.reps r2).length]; exact hlt, hd1 own1 μ1 σ _ R2 ex2 kp2 (List.prefix_refl _)⟩
    · exact hd1.elim
  · exact hd.elim
end
end M
/-! M6: dicts of the store, defs, the law. -/
namespace M
open PySem PySem.Spec PyProof.Rows L2

/-! ### a dict by written keys, in the store -/
def keyOf : D → Option Key
  | .int i => some (.inl i)
  | .str x => some (.inr x)
  | _ => none
def lookK (kvs : List (Key × D)) (k : Key) : Option D := (kvs.find? fun kv => decide (kv.1 = k)).map (·.2)
def putKD (kvs : List (Key × D)) (k : Key) (v : D) : List (Key × D) :=
  if (kvs.any fun kv => decide (kv.1 = k)) = true then kvs.map (fun kv => if kv.1 = k then (kv.1, v) else kv) else kvs ++ [(k, v)]
def atDk (s : Sto) (d kd : D) : Option (Nat × List (Key × D) × Key) := match d, keyOf kd with
  | .ref n, some k => match s[n]? with
    | some (.dk kvs) => some (n, kvs, k)
    | _ => none
  | _, _ => none
def eDGet (a k : ME) : ME := fun ρ s => (a ρ s).bind fun d s1 => (k ρ s1).bind fun kd s2 => match atDk s2 d kd with
  | some (_, kvs, k) => ofO (lookK kvs k) s2
  | none => .no
def sDkAug (a k : ME) (f : D → D → Option D) (m : ME) : MS := fun ρ s => (a ρ s).bind fun d s1 => (k ρ s1).bind fun kd s2 => match atDk s2 d kd with
  | some (n, kvs, k) => match lookK kvs k with
    | some x => (m ρ s2).bind fun y s3 => match s3[n]? with
      | some (.dk kvs3) => match f x y with
        | some z => if kvs3.length < sizeLine then .ok (.nx ρ) (s3.set n (.dk (putKD kvs3 k z))) else .no
        | none => .no
      | _ => .no
    | none => .no
  | none => .no
def sDPut (a k m : ME) : MS := fun ρ s => (m ρ s).bind fun y s1 => (a ρ s1).bind fun d s2 => (k ρ s2).bind fun kd s3 => match atDk s3 d kd with
  | some (n, kvs, k) => if kvs.length < sizeLine then .ok (.nx ρ) (s3.set n (.dk (putKD kvs k y))) else .no
  | none => .no
def eDisp (ks : List Key) (ms : List ME) : ME := fun ρ s => (evs ms ρ s).bind fun ds s1 => .ok (.ref s1.length) (s1 ++ [.dk (ks.zip ds)])

section
variable {S : Srd} {Γ : List Nat} {g : Tag} {k : Nat} {X : Cx}
theorem Rep.key {K : PySem.W.Frag} {μ : List Addr} {own : Own} {H : Hp} {d : D} {v : V} {key : Key} (h : Rep K μ own H d v) (e : keyOf d = some key) : v = kV key := by
  cases h with
  | int i => cases e; rfl
  | str x => cases e; rfl
  | _ => cases e
theorem look_val {K : PySem.W.Frag} {μ : List Addr} {own : Own} {H : Hp} {key : Key} {d : D} : ∀ {kvs : List (Key × D)} {kws : List (Key × V)}, kvs.map (·.1) = kws.map (·.1) → Reps K μ own H (kvs.map (·.2)) (kws.map (·.2)) → lookK kvs key = some d → ∃ v, valV kws key = some v ∧ Rep K μ own H d v
  | [], _, _, _, e => by cases e
  | (k1, d1) :: kvs, [], q, _, e => by cases q
  | (k1, d1) :: kvs, (k2, v2) :: kws, q, r, e => by
    simp only [List.map_cons, List.cons.injEq] at q
    obtain ⟨q1, q2⟩ := q
    subst q1
    cases r with
    | cons r1 r2 =>
      by_cases z : k1 = key
      · subst z
        unfold lookK at e
        rw [List.find?_cons_of_pos (by simp)] at e
        cases e
        exact ⟨v2, valV_pos rfl, r1⟩
      · unfold lookK at e
        rw [List.find?_cons_of_neg (by simpa using z)] at e
        rw [valV_neg z]
        exact look_val q2 r2 e
theorem put_keys {key : Key} {x : D} {y : V} : ∀ {kvs : List (Key × D)} {kws : List (Key × V)}, kvs.map (·.1) = kws.map (·.1) → (putKD kvs key x).map (·.1) = (putK kws key y).map (·.1) := by
  intro kvs kws q
  have a1 : (kvs.any fun kv => decide (kv.1 = key)) = (kvs.map (·.1)).any fun k => decide (k = key) := by rw [List.any_map]; rfl
  have a2 : (kws.any fun kv => decide (kv.1 = key)) = (kws.map (·.1)).any fun k => decide (k = key) := by rw [List.any_map]; rfl
  have m1 : ∀ l : List (Key × D), (l.map fun kv => if kv.1 = key then (kv.1, x) else kv).map (·.1) = l.map (·.1) := fun l => by
    rw [List.map_map]
    apply List.map_congr_left
    intro kv _
    show (if kv.1 = key then (kv.1, x) else kv).1 = kv.1
    split <;> rfl
  have m2 : ∀ l : List (Key × V), (l.map fun kv => if kv.1 = key then (kv.1, y) else kv).map (·.1) = l.map (·.1) := fun l => by
    rw [List.map_map]
    apply List.map_congr_left
    intro kv _
    show (if kv.1 = key then (kv.1, y) else kv).1 = kv.1
    split <;> rfl
  unfold putKD putK
  rw [a1, a2, q]
  split
  · rw [m1, m2, q]
  · rw [List.map_append, List.map_append, q]; rfl
theorem put_repl {K : PySem.W.Frag} {μ : List Addr} {own : Own} {H : Hp} {key : Key} {x : D} {y : V} (rx : Rep K μ own H x y) : ∀ {kvs : List (Key × D)} {kws : List (Key × V)}, kvs.map (·.1) = kws.map (·.1) → Reps K μ own H (kvs.map (·.2)) (kws.map (·.2)) →
    Reps K μ own H ((kvs.map fun kv => if kv.1 = key then (kv.1, x) else kv).map (·.2)) ((kws.map fun kv => if kv.1 = key then (kv.1, y) else kv).map (·.2))
  | [], [], _, _ => .nil
  | [], _ :: _, q, _ => by cases q
  | _ :: _, [], q, _ => by cases q
  | (k1, d1) :: kvs, (k2, v2) :: kws, q, r => by
    simp only [List.map_cons, List.cons.injEq] at q
    obtain ⟨q1, q2⟩ := q
    subst q1
    cases r with
    | cons r1 r2 =>
      have ih := put_repl (key := key) rx q2 r2
      simp only [List.map_cons]
      by_cases z : k1 = key
      · simp only [z, if_true]; exact .cons rx ih
      · simp only [z, if_false]; exact .cons r1 ih
theorem put_vals {K : PySem.W.Frag} {μ : List Addr} {own : Own} {H : Hp} {key : Key} {x : D} {y : V} {kvs : List (Key × D)} {kws : List (Key × V)} (q : kvs.map (·.1) = kws.map (·.1)) (r : Reps K μ own H (kvs.map (·.2)) (kws.map (·.2))) (rx : Rep K μ own H x y) :
    Reps K μ own H ((putKD kvs key x).map (·.2)) ((putK kws key y).map (·.2)) := by
  have a1 : (kvs.any fun kv => decide (kv.1 = key)) = (kvs.map (·.1)).any fun k => decide (k = key) := by rw [List.any_map]; rfl
  have a2 : (kws.any fun kv => decide (kv.1 = key)) = (kws.map (·.1)).any fun k => decide (k = key) := by rw [List.any_map]; rfl
  unfold putKD putK
  rw [a1, a2, q]
  split
  · exact put_repl rx q r
  · rw [List.map_append, List.map_append]; exact r.append (Reps.one rx)
theorem atDk_some {s : Sto} {d kd : D} {n : Nat} {kvs : List (Key × D)} {key : Key} (h : atDk s d kd = some (n, kvs, key)) : d = .ref n ∧ keyOf kd = some key ∧ s[n]? = some (.dk kvs) := by
  unfold atDk at h
  split at h
  · rename_i m k2 e
    split at h
    · rename_i kv2 e2
      simp only [Option.some.injEq, Prod.mk.injEq] at h
      obtain ⟨rfl, rfl, rfl⟩ := h
      exact ⟨rfl, e, e2⟩
    · cases h
  · cases h
theorem cell_dk {BB : Bd} {K : PySem.W.Frag} {own : Own} {μ : List Addr} {s : Sto} {H : Hp} {n : Nat} {kvs : List (Key × D)} (R : StoOk BB K μ own s H) (h : s[n]? = some (.dk kvs)) : ∃ a kws, μ[n]? = some a ∧ own a = .cell n ∧ H a = some (.dK kws) ∧ kvs.map (·.1) = kws.map (·.1) ∧ Reps K μ own H (kvs.map (·.2)) (kws.map (·.2)) := by
  obtain ⟨a, h1, h2, h3⟩ := R.cell n _ h
  cases h3 with
  | dk e q r => exact ⟨a, _, h1, h2, e, q, r⟩
theorem sim_dget {td ty : TE} {a kk : ME} {g1 g2 : Tag} (ha : SimE S Γ g1 0 td a) (hk : SimE S Γ g2 0 ty kk) : SimE S Γ g 0 (tDGet td ty) (eDGet a kk) := by
  refine sim_tag0 (g := .fresh) ?_
  intro own μ ρ s σ H Q R hd
  refine ha own μ ρ s σ H _ R (done_bind (α := D) hd fun d s1 own1 μ1 v H1 R1 e1 m1 r1 hd1 => ?_)
  refine hk own1 μ1 ρ s1 σ H1 _ R1 (done_bind (α := D) hd1 fun kd s2 own2 μ2 u H2 R2 e2 m2 r2 hd2 => ?_)
  have r1' := Rep.ext r1 e2 m2
  cases q : atDk s2 d kd with
  | none => simp only [q] at hd2; exact hd2.elim
  | some z =>
    obtain ⟨n, kvs, key⟩ := z
    simp only [q] at hd2
    obtain ⟨rfl, q2, q3⟩ := atDk_some q
    cases q4 : lookK kvs key with
    | none => rw [q4] at hd2; exact hd2.elim
    | some x =>
      rw [q4] at hd2
      obtain ⟨p, kws, h1, h2, h3, h4, h5⟩ := cell_dk R2.sto q3
      obtain ⟨y, h6, h7⟩ := look_val h4 h5 q4
      cases r1' with
      | ref hm =>
        rw [h1] at hm
        cases hm
        refine ⟨p, y, rfl, ?_, hd2 own2 μ2 y H2 R2 .refl (List.prefix_refl _) h7⟩
        rw [r2.key q2, ← h6]
        exact DGet.k h3
/-- a cell of the store is written -/
theorem Rel.cellw {BB : Bd} {K : PySem.W.Frag} {own own0 : Own} {B : Hp} {μ : List Addr} {ρ : Env} {s : Sto} {σ : St} {H : Hp} {n : Nat} {p : Addr} {kws kws' : List (Key × V)} {kvs : List (Key × D)} (R : Rel BB K Γ own μ ρ s σ H) (e : Ext own0 B own H)
    (h1 : μ[n]? = some p) (h2 : own p = .cell n) (h3 : H p = some (.dK kws)) (q : kvs.map (·.1) = kws'.map (·.1)) (r : Reps K μ own H (kvs.map (·.2)) (kws'.map (·.2))) :
    Rel BB K Γ own μ ρ (s.set n (.dk kvs)) σ (upd H p (.dK kws')) ∧ Ext own0 B own (upd H p (.dK kws')) ∧ Keeps own own H (upd H p (.dK kws')) := by
  have kp : Keeps own own H (upd H p (.dK kws')) := by
    have ne : ∀ b u, H b = some u → (∀ ws, u ≠ .dK ws) → b ≠ p := fun b u h n z => by subst z; rw [h3] at h; cases h; exact n _ rfl
    refine ⟨fun b xs h => ?_, fun b c u h => ?_, fun b u h l => ⟨?_, l⟩⟩
    · rw [upd_ne (ne b _ h (by intro _ z; cases z))]; exact h
    · rw [upd_ne (ne b _ h (by intro _ z; cases z))]; exact h
    · rw [upd_ne (fun z => by subst z; rw [h2] at l; cases l)]; exact h
  refine ⟨⟨R.len, fun j d h => ?_, ⟨by rw [List.length_set]; exact R.sto.len, fun m c h => ?_, R.sto.lab, fun b h => ?_⟩⟩, ⟨fun b o h n => ?_, fun b xs h => kp.tup b xs (e.tup b xs h), fun b c u h => kp.frzs b c u (e.frzs b c u h), e.lab, fun b o h => ?_⟩, kp⟩
  · obtain ⟨v, h1, h4⟩ := R.slot j d h
    exact ⟨v, h1, h4.keep kp (List.prefix_refl _) fun b o p r => ⟨p, by rw [upd_ne (fun z => by subst z; rw [h2] at p; cases p)]; exact r⟩⟩
  · by_cases z : m = n
    · subst z
      have hl : m < s.length := by
        have := (List.getElem?_eq_some_iff.mp h).1
        rw [List.length_set] at this
        exact this
      rw [List.getElem?_set_self hl] at h
      cases h
      exact ⟨p, h1, h2, .dk upd_same q (r.keep kp (List.prefix_refl _))⟩
    · rw [List.getElem?_set_ne (Ne.symm z)] at h
      obtain ⟨b, h4, h5, h6⟩ := R.sto.cell m c h
      exact ⟨b, h4, h5, h6.keep kp (List.prefix_refl _) fun o r => by rw [upd_ne (fun y => by subst y; rw [h2] at h5; cases h5; exact z rfl)]; exact r⟩
  · by_cases z : b = p
    · subst z; rw [upd_same] at h; cases h
    · rw [upd_ne z] at h; exact R.sto.fresh b h
  · have hb : b ≠ p := fun z => by
      subst z
      have l := e.lab b o h
      rw [h2] at l
      exact n _ l.symm
    rw [upd_ne hb]; exact e.obj b o h n
  · by_cases z : b = p
    · subst z; exact ⟨_, upd_same⟩
    · rw [upd_ne z]; exact e.there b o h
theorem sim_daug {b c : List Nat} {r k2 : Nat} {td ty tv : TE} {rd : V → V → Hp → VK → Prop} {a kk m : ME} {f : D → D → Option D} {g1 g2 g3 : Tag} (ho : Op2 S 0 k2 0 rd f) (hconst : ∀ μ own H x y d1 d2 d Q, Rep S.K μ own H d1 x → RepK S.K μ own H k2 (fun a => NonCell own a) d2 y → f d1 d2 = some d → (∀ v, Rep S.K μ own H d v → Q v H) → rd x y H Q)
    (ha : SimE S Γ g1 0 td a) (hk : SimE S Γ g2 0 ty kk) (hm : SimE S Γ g3 k2 tv m) : SimS S ⟨Γ, b, c, r⟩ Γ (L2.sDAug td ty tv rd) (sDkAug a kk f m) := fun own0 B own μ ρ s σ H D en R ex hd => by
  refine ha own μ ρ s σ H _ R (doneS_bind ex hd fun d s1 own1 μ1 v H1 R1 ex1 e1 m1 r1 hd1 => ?_)
  refine hk own1 μ1 ρ s1 σ H1 _ R1 (doneS_bind ex1 hd1 fun kd s2 own2 μ2 u H2 R2 ex2 e2 m2 r2 hd2 => ?_)
  have r1' := Rep.ext r1 e2 m2
  cases q : atDk s2 d kd with
  | none => simp only [q] at hd2; exact hd2.elim
  | some z =>
    obtain ⟨n, kvs, key⟩ := z
    simp only [q] at hd2
    obtain ⟨rfl, q2, q3⟩ := atDk_some q
    cases q4 : lookK kvs key with
    | none => simp only [q4] at hd2; exact hd2.elim
    | some x =>
      simp only [q4] at hd2
      obtain ⟨p, kws, h1, h2, h3, h4, h5⟩ := cell_dk R2.sto q3
      obtain ⟨y, h6, h7⟩ := look_val h4 h5 q4
      cases r1' with
      | ref hmm =>
        rw [h1] at hmm
        cases hmm
        have ek : u = kV key := r2.key q2
        subst ek
        refine ⟨p, y, rfl, by rw [← h6]; exact DGet.k h3, hm own2 μ2 ρ s2 σ H2 _ R2 (doneS_bind ex2 hd2 fun w s3 own3 μ3 u3 H3 R3 ex3 e3 m3 r3 hd3 => ?_)⟩
        split at hd3
        · rename_i kvs3 q5
          cases q6 : f x w with
          | none => simp only [q6] at hd3; exact hd3.elim
          | some zd =>
            simp only [q6] at hd3
            split at hd3
            · rename_i hlt
              refine hconst μ3 own3 H3 y u3 x w zd _ (Rep.ext h7 e3 m3) (r3.imp fun a p => Tag.P_nc p) q6 fun zv rz => ?_
              obtain ⟨p2, kws2, j1, j2, j3, j4, j5⟩ := cell_dk R3.sto q5
              have hp : p2 = p := by
                have := pre_get m3 h1
                rw [j1] at this
                exact Option.some.inj this
              subst hp
              obtain ⟨R4, ex4, kp4⟩ := R3.cellw ex3 j1 j2 j3 (put_keys (x := zd) (y := zv) j4) (put_vals (key := key) j4 j5 rz)
              refine ⟨_, DPut.k j3 ?_, hd3 own3 μ3 σ _ R4 ex4 kp4 (List.prefix_refl _)⟩
              have := congrArg List.length j4
              rw [List.length_map, List.length_map] at this
              rw [← this]; exact hlt
            · exact hd3.elim
        · exact hd3.elim
theorem rAdd_const {k2 : Nat} : ∀ μ own H x y d1 d2 d Q, Rep S.K μ own H d1 x → RepK S.K μ own H k2 (fun a => NonCell own a) d2 y → (oI fun i j => .int (i + j)) d1 d2 = some d → (∀ v, Rep S.K μ own H d v → Q v H) → L2.rAdd x y H Q := fun μ own H x y d1 d2 d Q r1 r2 e q => by
  obtain ⟨i, j, rfl, rfl, _, rfl⟩ := oI_some e
  have r3 := r2.rep rfl
  cases r1; cases r3
  exact ⟨i, j, rfl, rfl, q _ (.int _)⟩
def oAddI := oI fun i j => D.int (i + j)
def oSubI := oI fun i j => D.int (i - j)
theorem o_addI {k1 k2 k : Nat} : Op2 S k1 k2 k L2.rAdd oAddI := op2_int (c := fun _ _ => True) (fun i j H Q _ q => ⟨i, j, rfl, rfl, q⟩) (fun d e z h => oI_some h) fun i j => .inl ⟨_, rfl, rfl⟩
theorem o_ipAdd {k1 k2 k : Nat} : Op2 S k1 k2 k (ipI fun i j => i + j) oAddI := op2_int (c := fun _ _ => True) (fun i j H Q _ q => ⟨i, j, rfl, rfl, q⟩) (fun d e z h => oI_some h) fun i j => .inl ⟨_, rfl, rfl⟩
theorem o_ipSub {k1 k2 k : Nat} : Op2 S k1 k2 k (ipI fun i j => i - j) oSubI := op2_int (c := fun _ _ => True) (fun i j H Q _ q => ⟨i, j, rfl, rfl, q⟩) (fun d e z h => oI_some h) fun i j => .inl ⟨_, rfl, rfl⟩
/-- the written pairs of a display -/
def SimP (S : Srd) (Γ : List Nat) (trs : List (TE × TE)) (ks : List Key) (ms : List ME) : Prop := ks.length = ms.length ∧ ∀ own μ ρ s σ H (Q : List (V × V) → Hp → Prop), Rel S.B S.K Γ own μ ρ s σ H →
  DoneA S Γ own μ ρ σ H (fun vs H' => Q ((ks.zip vs).map fun kv => (kV kv.1, kv.2)) H') (evs ms ρ s) → tPairs trs σ H Q
theorem sim_pnil : SimP S Γ [] [] [] := ⟨rfl, fun own μ ρ s σ H Q R hd => hd own μ [] H R .refl (List.prefix_refl _) .nil⟩
theorem sim_pcons {key : Key} {tv : TE} {trs : List (TE × TE)} {m : ME} {ks : List Key} {ms : List ME} (h : SimE S Γ g 0 tv m) (hs : SimP S Γ trs ks ms) : SimP S Γ ((tC (kV key), tv) :: trs) (key :: ks) (m :: ms) := by
  refine ⟨congrArg (· + 1) hs.1, fun own μ ρ s σ H Q R hd => ?_⟩
  refine h own μ ρ s σ H _ R ?_
  unfold evs at hd
  cases q : m ρ s with
  | no => rw [q] at hd; exact hd
  | ex e s' => rw [q] at hd; exact hd
  | ok d s1 =>
    rw [q] at hd
    intro own1 μ1 v H1 R1 e1 m1 r1
    have hd1 := DoneA.step e1 m1 hd
    refine hs.2 own1 μ1 ρ s1 σ H1 _ R1 ?_
    simp only [Res.bind] at hd1
    cases q2 : evs ms ρ s1 with
    | no => rw [q2] at hd1; exact hd1
    | ex e s' => rw [q2] at hd1; exact hd1
    | ok ds s2 =>
      rw [q2] at hd1
      exact fun own2 μ2 vs H2 R2 e2 m2 r2 => hd1 own2 μ2 (v :: vs) H2 R2 e2 m2 (.cons (Rep.ext r1 e2 m2) r2)
theorem mergeK_zip : ∀ (ps : List (Key × V)) (acc : List (Key × V)), (ps.map (·.1)).Nodup → (∀ p ∈ ps, ∀ q ∈ acc, q.1 ≠ p.1) → mergeK acc ps = acc ++ ps
  | [], acc, _, _ => by simp [mergeK]
  | p :: ps, acc, nd, hn => by
    rw [List.map_cons, List.nodup_cons] at nd
    have h1 : (acc.any fun kv => decide (kv.1 = p.1)) = false := by
      rw [List.any_eq_false]
      intro q hq
      simpa using hn p List.mem_cons_self q hq
    have h2 : putK acc p.1 p.2 = acc ++ [p] := by
      unfold putK
      rw [h1]
      simp
    show mergeK (putK acc p.1 p.2) ps = _
    rw [h2, mergeK_zip ps _ nd.2 fun a ha q hq => ?_]
    · simp
    · rcases List.mem_append.mp hq with hq | hq
      · exact hn a (List.mem_cons_of_mem _ ha) q hq
      · have : q = p := by simpa using hq
        subst this
        intro z
        exact nd.1 (z ▸ List.mem_map_of_mem ha)
theorem zip_fst : ∀ {ks : List Key} {ds : List D}, ks.length = ds.length → (ks.zip ds).map (·.1) = ks
  | [], [], _ => rfl
  | [], _ :: _, h => by cases h
  | _ :: _, [], h => by cases h
  | k :: ks, d :: ds, h => by rw [List.zip_cons_cons, List.map_cons, zip_fst (Nat.succ.inj h)]
theorem zip_snd {α : Type} : ∀ {ks : List Key} {ds : List α}, ks.length = ds.length → (ks.zip ds).map (·.2) = ds
  | [], [], _ => rfl
  | [], _ :: _, h => by cases h
  | _ :: _, [], h => by cases h
  | k :: ks, d :: ds, h => by rw [List.zip_cons_cons, List.map_cons, zip_snd (Nat.succ.inj h)]
theorem zip_fst' {α : Type} : ∀ {ks : List Key} {ds : List α}, ks.length = ds.length → (ks.zip ds).map (·.1) = ks
  | [], [], _ => rfl
  | [], _ :: _, h => by cases h
  | _ :: _, [], h => by cases h
  | k :: ks, d :: ds, h => by rw [List.zip_cons_cons, List.map_cons, zip_fst' (Nat.succ.inj h)]
open Classical in
theorem sim_disp {trs : List (TE × TE)} {ks : List Key} {ms : List ME} (h : SimP S Γ trs ks ms) (nd : ks.Nodup) (hl : ks.length ≤ 15) : SimE S Γ g 0 (tDisp trs) (eDisp ks ms) := by
  refine sim_tag0 (g := .fresh) ?_
  intro own μ ρ s σ H Q R hd p hp
  have lp := R.sto.fresh p hp
  refine h.2 own μ ρ s σ (upd H p (.dK [])) _ (R.grow (Grow.upd hp)) ?_
  unfold eDisp at hd
  cases q : evs ms ρ s with
  | no => rw [q] at hd; exact hd
  | ex e s' =>
    rw [q] at hd
    exact fun own1 μ1 H1 c x R1 e1 m1 rx => hd own1 μ1 H1 c x R1 ((Grow.upd hp).ext.trans e1) m1 rx
  | ok ds s1 =>
  rw [q] at hd
  intro own1 μ1 vs H1 R1 e1 m1 r1
  have hp1 : H1 p = some (.dK []) := e1.obj p _ upd_same (fun n => by rw [lp]; intro z; cases z)
  have lp1 : own1 p = .tmp := (e1.lab p _ upd_same).trans lp
  have hlen : ks.length = vs.length := by rw [h.1, ← evs_length q, r1.length]
  refine ⟨hp1, ks.zip vs, rfl, by rw [List.length_zip]; omega, ?_⟩
  rw [mergeK_zip _ [] (by rw [zip_fst' hlen]; exact nd) (fun _ _ q hq => absurd hq (by simp)), List.nil_append]
  -- the cell's label
  let own2 : Own := fun a => if a = p then .cell s1.length else own1 a
  have l1 : ∀ a, a ≠ p → own2 a = own1 a := fun a h => if_neg h
  have kp : Keeps own1 own2 H1 (upd H1 p (.dK (ks.zip vs))) := by
    have kk := keeps_tmp (o' := .dK (ks.zip vs)) lp1 hp1 (by intro _ z; cases z) (by intro _ _ z; cases z)
    exact ⟨kk.tup, kk.frzs, fun a o h l => ⟨(kk.frz a o h l).1, (l1 a (fun z => by subst z; rw [lp1] at l; cases l)).trans l⟩⟩
  have kpm : μ1 <+: μ1 ++ [p] := List.prefix_append _ _
  have hml : μ1.length = s1.length := R1.sto.len
  have hmp : (μ1 ++ [p])[s1.length]? = some p := by rw [← hml, List.getElem?_append_right (Nat.le_refl _)]; simp
  have R2 : Rel S.B S.K Γ own2 (μ1 ++ [p]) ρ (s1 ++ [.dk (ks.zip ds)]) σ (upd H1 p (.dK (ks.zip vs))) := by
    refine ⟨R1.len, fun i d hh => ?_, ⟨by rw [List.length_append, List.length_append, hml]; rfl, fun n c hh => ?_, fun a n hh => ?_, fun a hh => ?_⟩⟩
    · obtain ⟨v, h1, h2⟩ := R1.slot i d hh
      refine ⟨v, h1, h2.keep kp kpm fun a o pp r => ?_⟩
      have hne : a ≠ p := fun z => by subst z; rw [lp1] at pp; cases pp
      exact ⟨(l1 a hne).trans pp, by rw [upd_ne hne]; exact r⟩
    · by_cases hn : n < s1.length
      · rw [List.getElem?_append_left hn] at hh
        obtain ⟨a, h1, h2, h3⟩ := R1.sto.cell n c hh
        have hne : a ≠ p := fun z => by subst z; rw [lp1] at h2; cases h2
        exact ⟨a, pre_get kpm h1, (l1 a hne).trans h2, h3.keep kp kpm fun o r => by rw [upd_ne hne]; exact r⟩
      · have hn2 : n = s1.length := by
          have := (List.getElem?_eq_some_iff.mp hh).1
          rw [List.length_append, List.length_singleton] at this
          omega
        subst hn2
        rw [List.getElem?_append_right (Nat.le_refl _)] at hh
        simp only [Nat.sub_self, List.getElem?_cons_zero, Option.some.injEq] at hh
        subst hh
        have hz : ks.length = ds.length := hlen.trans r1.length.symm
        exact ⟨p, hmp, if_pos rfl, .dk upd_same (by rw [zip_fst' hz, zip_fst' hlen]) (by rw [zip_snd hz, zip_snd hlen]; exact r1.keep kp kpm)⟩
    · by_cases z : a = p
      · subst z
        have : own2 a = .cell s1.length := if_pos rfl
        rw [this] at hh
        cases hh
        exact hmp
      · rw [l1 a z] at hh
        exact pre_get kpm (R1.sto.lab a n hh)
    · by_cases z : a = p
      · subst z; rw [upd_same] at hh; cases hh
      · rw [upd_ne z] at hh
        rw [l1 a z]
        exact R1.sto.fresh a hh
  have ne : ∀ a u, H a = some u → a ≠ p := fun a u h z => by subst z; rw [hp] at h; cases h
  have ex2 : Ext own H own2 (upd H1 p (.dK (ks.zip vs))) := by
    have e2 := (Grow.upd hp).ext.trans e1
    exact ⟨fun a o h n => by rw [upd_ne (ne a o h)]; exact e2.obj a o h n, fun a xs h => by rw [upd_ne (ne a _ h)]; exact e2.tup a xs h, fun a b u h => by rw [upd_ne (ne a _ h)]; exact e2.frzs a b u h,
      fun a o h => (l1 a (ne a o h)).trans (e2.lab a o h), fun a o h => by rw [upd_ne (ne a o h)]; exact e2.there a o h⟩
  exact hd own2 (μ1 ++ [p]) (.ref p) _ R2 ex2 (m1.trans kpm) (Rep.ref hmp)

/-! ### a def -/
def env0 (n : Nat) (ds : List D) : Env := ds.map some ++ List.replicate (n - ds.length) none
def fnM (n : Nat) (m : MS) : List D → Sto → Res D := fun ds s => (m (env0 n ds) s).bind fun o s1 => match o with
  | .rt d => .ok d s1
  | .nx _ => .ok .non s1
  | _ => .no
theorem passE {X : Cx} {E : XK} : Passes CX0 X E := fun _ _ _ _ _ _ _ h => h.elim
theorem start_rel {BB : Bd} {K : PySem.W.Frag} {own : Own} {μ : List Addr} {s : Sto} {H : Hp} {ds : List D} {vs : List V} {N : List Str} (so : StoOk BB K μ own s H) (r : Reps K μ own H ds vs) : Rel BB K (List.replicate N.length 0) own μ (env0 N.length ds) s (L2.start N vs) H := by
  refine ⟨?_, fun i d h => ?_, so⟩
  · unfold L2.start env0
    rw [List.length_append, List.length_append, List.length_map, List.length_map, List.length_replicate, List.length_replicate, r.length]
  · have hg : (List.replicate N.length 0).getD i 0 = 0 := by
      rw [List.getD_eq_getElem?_getD, List.getElem?_replicate]
      split <;> rfl
    rw [hg]
    unfold env0 at h
    by_cases hi : i < ds.length
    · rw [List.getElem?_append_left (by simpa using hi), List.getElem?_map] at h
      cases q : ds[i]? with
      | none => rw [q] at h; cases h
      | some e =>
        rw [q] at h
        cases h
        obtain ⟨v, h1, h2⟩ := r.get q
        refine ⟨v, ?_, h2⟩
        unfold L2.start
        rw [List.getElem?_append_left (by rw [List.length_map, ← r.length]; exact hi), List.getElem?_map, h1]
        rfl
    · rw [List.getElem?_append_right (by simpa using hi), List.getElem?_replicate] at h
      split at h <;> cases h
theorem fn_ok {P : Program} {w : World} {K : PySem.W.Frag} {mg : Str → Option Value} {base : Heap} {CA : Nat → Option Addr} {x qual : Str} {st : Stmt} {f : Addr} {fd : FuncData} {N ps : List Str} {k r nn : Nat} {mm : MS} (F : Fun K x qual st f fd) (Sc : FnScope N ps (defScope st)) (hn : nn = N.length)
    (hbody : ∀ (cdv : Value) (A : Around) (outer : List PySem.Env) (s : Shared) (H : Hp) (E : XK), Room k (A.deeper (envOfC qual (defScope st) s.heap.objs.size f cdv)) →
      ∃ t a b c, PSs (cxOf CX0 P w K mg base N qual (defScope st) f cdv A outer s H E).nox (defBody st) t ∧ SimS ⟨BB, K, CA, E⟩ ⟨a, b, c, r⟩ (List.replicate N.length 0) t mm) : FnOk P w K mg base CX0 (k + 1) f fd ps (spD BB K CA r ps.length (fnM nn mm)) := by
  subst hn
  refine F.ok Sc (fun vs H Q E h => ?_) (fun cdv A outer s H vs Q E hr h => ?_)
  · obtain ⟨_, _, _, _, h, _⟩ := h
    exact h
  · obtain ⟨own, μ, ds, st0, hl, rr, so, en, dn⟩ := h
    obtain ⟨t, a, b, c, ht, hs⟩ := hbody cdv A outer s H E hr
    refine ⟨t, ht, hs own H own μ (env0 N.length ds) st0 (L2.start N vs) H _ en (start_rel so rr) .refl ?_⟩
    unfold fnM at dn
    have top : ∀ {own' : Own} {H' : Hp} {a : Addr}, Ext own H own' H' → own' a = .tmp → H a = none := fun {own' H' a} e h => by
      cases q : H a with
      | none => rfl
      | some o =>
        have l := e.lab a o q
        rw [h] at l
        rcases en a o q with z | z | ⟨n, z⟩ <;> (rw [z] at l; cases l)
    cases q : mm (env0 N.length ds) st0 with
    | no => rw [q] at dn; exact dn
    | ex e s' => rw [q] at dn; exact fun own' μ' H' c x so' e' kp m' rx => dn own' μ' H' c x so' e' m' rx
    | ok o s' =>
      rw [q] at dn
      cases o with
      | rt d => exact fun own' μ' v H' so' e' kp m' rv => dn own' μ' v H' so' e' m' (rv.imp fun a p => ⟨p, top e' p⟩)
      | nx ρ' => exact fun own' μ' σ' H' R' e' kp m' => dn own' μ' .non H' R'.sto e' m' (RepK.of .non rfl)
      | bk ρ' => exact dn.elim
      | ct ρ' => exact dn.elim
/-- with no fuel nothing is promised -/
theorem fn_zero {P : Program} {w : World} {BB : Bd} {K : PySem.W.Frag} {mg : Str → Option Value} {base : Heap} {CX : CXT} {CA : Nat → Option Addr} {f : Addr} {fd : FuncData} {ps : List Str} {k r : Nat} : FnOk P w K mg base CX k f fd ps (spD BB K CA r ps.length fun _ _ => .no) :=
  ⟨fun vs H Q E h => let ⟨_, _, _, _, h, _⟩ := h; h, fun A outer s H args us vs Q E hr e0 hb r h => let ⟨_, _, _, _, _, _, _, _, dn⟩ := h; dn.elim⟩
/-- the law's promise, of a plain function that says yes -/
theorem law_sp {K : PySem.W.Frag} {CA : Nat → Option Addr} {H : Hp} {a : Addr} {ns : List Int} {f : List D → Sto → Res D} {E : XK} {r : Nat} (ho : Only H) (hs : SqL K H a (ns.map V.int)) (h : ∃ s', f [.scr ns] [] = .ok (.bl true) s') :
    spD BB K CA r 1 f [.ref a] H (fun v _ => v = .bl true) E := by
  obtain ⟨s', h⟩ := h
  refine ⟨fun a => match H a with | none => .tmp | some _ => .out, [], [.scr ns], [], rfl, Reps.one (.scr ?_), ⟨rfl, fun n c q => by simp at q, fun a n q => ?_, fun a q => by simp only [q]⟩, fun a o q => .inr (.inl (by simp only [q])), ?_⟩
  · rcases hs with (hs | ⟨o, hs⟩) | hs
    · rcases ho a with z | ⟨o, xs, z⟩
      · rw [z] at hs; cases hs
      · rw [z] at hs; cases hs
    · exact .inl ⟨o, hs⟩
    · exact .inr hs
  · cases z : H a with
    | none => simp only [z] at q; cases q
    | some o => simp only [z] at q; cases q
  · rw [h]
    intro own' μ' v H' so e m rv
    cases r with
    | zero => cases rv; rfl
    | succ r =>
      rcases rv with ⟨_, rv⟩ | ⟨_, _, _, _, z, _⟩
      · cases rv; rfl
      · cases z
end
end M
/-! M7: chains of comparisons, either of list and tuple walked, comprehensions of two clauses, freer forms. -/
namespace M
open PySem PySem.Spec PyProof.Rows L2
/-- a op1 b op2 c -/
def eChain (f f' : D → D → Option D) (a b c : ME) : ME := fun ρ s => (a ρ s).bind fun d s1 => (b ρ s1).bind fun e s2 => match f d e with
  | some (.bl true) => (c ρ s2).bind fun z s3 => ofO (f' e z) s3
  | some (.bl false) => .ok (.bl false) s2
  | _ => .no
def iS (m : ME) : MI := fun ρ s => (m ρ s).bind fun d s1 => match d with
  | .tup ds => .ok ds s1
  | .lst ds => .ok ds s1
  | _ => .no
def compL2 (mg : MG) (mt : MT) (mi1 : MI) (mg1 : MG) (mt1 : MT) (me : ME) (vs1 : List Nat) (ρ : Env) : List D → Sto → Res (List D)
  | [], s => .ok [] s
  | d :: ds, s => match mg d ρ with
    | none => .no
    | some ρ1 => (mt ρ1 s).nox.bind fun b s1 => if b then (mi1 ρ1 s1).nox.bind fun es s2 => (compL mg1 mt1 me (wipeE ρ1 vs1) es s2).bind fun ys s3 => (compL2 mg mt mi1 mg1 mt1 me vs1 ρ ds s3).bind fun zs s4 => .ok (ys ++ zs) s4
      else compL2 mg mt mi1 mg1 mt1 me vs1 ρ ds s1
def eComp2 (mi : MI) (mg : MG) (mt : MT) (mi1 : MI) (mg1 : MG) (mt1 : MT) (me : ME) (vs vs1 : List Nat) : ME := fun ρ s => (mi ρ s).bind fun ds s1 => (compL2 mg mt mi1 mg1 mt1 me vs1 (wipeE ρ vs) ds s1).bind fun ys s2 => if ys.length ≤ sizeLine then .ok (.lst ys) s2 else .no
theorem compL_nox (mg : MG) (mt : MT) (me : ME) (ρ : Env) : ∀ (ds : List D) (s : Sto) (e : Exn) (t : Sto), compL mg mt me ρ ds s ≠ .ex e t
  | [], s, e, t, h => by cases h
  | d :: ds, s, e, t, h => by
    unfold compL at h
    cases qg : mg d ρ with
    | none => simp only [qg] at h; cases h
    | some ρ1 =>
      simp only [qg] at h
      rcases nox_cases (mt ρ1 s) with ⟨b, s2, _, e'⟩ | e'
      · simp only [e', Res.bind] at h
        cases b with
        | false => exact compL_nox mg mt me ρ ds s2 e t h
        | true =>
          simp only [if_true] at h
          rcases nox_cases (me ρ1 s2) with ⟨y, s3, _, f'⟩ | f'
          · simp only [f'] at h
            cases q : compL mg mt me ρ ds s3 with
            | no => rw [q] at h; cases h
            | ex z u => exact compL_nox mg mt me ρ ds s3 z u q
            | ok ys u => rw [q] at h; cases h
          · simp only [f'] at h; cases h
      · simp only [e', Res.bind] at h; cases h
theorem compL2_nox (mg : MG) (mt : MT) (mi1 : MI) (mg1 : MG) (mt1 : MT) (me : ME) (vs1 : List Nat) (ρ : Env) : ∀ (ds : List D) (s : Sto) (e : Exn) (t : Sto), compL2 mg mt mi1 mg1 mt1 me vs1 ρ ds s ≠ .ex e t
  | [], s, e, t, h => by cases h
  | d :: ds, s, e, t, h => by
    unfold compL2 at h
    cases qg : mg d ρ with
    | none => simp only [qg] at h; cases h
    | some ρ1 =>
      simp only [qg] at h
      rcases nox_cases (mt ρ1 s) with ⟨b, s2, _, e'⟩ | e'
      · simp only [e', Res.bind] at h
        cases b with
        | false => exact compL2_nox mg mt mi1 mg1 mt1 me vs1 ρ ds s2 e t h
        | true =>
          simp only [if_true] at h
          rcases nox_cases (mi1 ρ1 s2) with ⟨es, s3, _, f'⟩ | f'
          · simp only [f'] at h
            cases q : compL mg1 mt1 me (wipeE ρ1 vs1) es s3 with
            | no => rw [q] at h; cases h
            | ex z u => exact compL_nox mg1 mt1 me _ es s3 z u q
            | ok ys u =>
              rw [q] at h
              simp only at h
              cases q2 : compL2 mg mt mi1 mg1 mt1 me vs1 ρ ds u with
              | no => rw [q2] at h; cases h
              | ex z v => exact compL2_nox mg mt mi1 mg1 mt1 me vs1 ρ ds u z v q2
              | ok zs v => rw [q2] at h; cases h
          · simp only [f'] at h; cases h
      · simp only [e', Res.bind] at h; cases h
section
variable {S : Srd} {Γ : List Nat} {g : Tag} {k : Nat} {X : Cx}
theorem PI.or {tg e : Expr} {w w' : TI} (h : PI X tg e w) (h' : PI X tg e w') : PI X tg e (fun σ H R => w σ H R ∨ w' σ H R) :=
  ⟨fun pins s σ H R I q => q.elim (h.run pins s σ H R I) (h'.run pins s σ H R I)⟩
def iSeq (K : PySem.W.Frag) (t : TE) : TI := fun σ H R => iList K t σ H R ∨ iTup K t σ H R
theorem pi_seq {tg l : Expr} {tl : TE} (hl : PE X l tl) : PI X tg l (iSeq X.K tl) := PI.or (pi_list hl) (pi_tup hl)
theorem sim_iS {t : TE} {m : ME} (h : SimE S Γ g 0 t m) : SimI S Γ (iSeq S.K t) (iS m) := by
  intro own μ ρ s σ H R' R hd
  unfold iS at hd
  cases q : m ρ s with
  | no => rw [q] at hd; exact hd.elim
  | ex e s' =>
    rw [q] at hd
    refine .inl (h own μ ρ s σ H _ R ?_)
    rw [q]
    exact hd
  | ok d s1 =>
    rw [q] at hd
    cases d with
    | lst ds =>
      refine .inl (h own μ ρ s σ H _ R ?_)
      rw [q]
      intro own1 μ1 v H1 R1 e1 m1 r1
      cases r1 with
      | lst z hs t => exact ⟨_, rfl, ⟨_, SqL.of hs.1⟩, hd own1 μ1 _ H1 R1 e1 m1 (itd_list z hs t)⟩
    | tup ds =>
      refine .inr (h own μ ρ s σ H _ R ?_)
      rw [q]
      intro own1 μ1 v H1 R1 e1 m1 r1
      cases r1 with
      | tup z hs t => exact ⟨_, rfl, ⟨_, hs⟩, hd own1 μ1 _ H1 R1 e1 m1 (itd_tup z hs t)⟩
    | _ => exact False.elim hd
theorem sim_chain {g1 g2 g3 : Tag} {k1 k2 k3 : Nat} {r r' : R2} {f f' : D → D → Option D} {ta tb tc : TE} {a b c : ME} (ho : Op2 S k1 k2 0 r f) (ho' : Op2 S k2 k3 0 r' f') (ha : SimE S Γ g1 k1 ta a) (hb : SimE S Γ g2 k2 tb b) (hc : SimE S Γ g3 k3 tc c) :
    SimE S Γ g 0 (tChain r r' ta tb tc) (eChain f f' a b c) := by
  refine sim_tag0 (g := .fresh) ?_
  intro own μ ρ s σ H Q R hd
  refine ha own μ ρ s σ H _ R (done_bind (α := D) hd fun d s1 own1 μ1 v H1 R1 e1 m1 r1 hd1 => ?_)
  refine hb own1 μ1 ρ s1 σ H1 _ R1 (done_bind (α := D) hd1 fun e s2 own2 μ2 u H2 R2 e2 m2 r2 hd2 => ?_)
  have r2' := r2.imp (P' := fun a => NonCell own2 a) fun a p => Tag.P_nc p
  cases q : f d e with
  | none => simp only [q] at hd2; exact hd2.elim
  | some z =>
    cases z with
    | bl bb =>
      refine ho μ2 own2 H2 v u d e _ _ R2.sto.fresh (r1.held e2 m2) r2' q fun x H3 gr rv => ?_
      cases rv
      refine ⟨bb, rfl, ?_⟩
      have R3 := R2.grow gr
      have hd3 := Done.step gr.ext (List.prefix_refl μ2) hd2
      cases bb with
      | false =>
        simp only [q] at hd3
        exact iteF (hd3 own2 μ2 _ H3 R3 .refl (List.prefix_refl _) (Rep.bl _))
      | true =>
        simp only [q] at hd3
        refine iteT (hc own2 μ2 ρ s2 σ H3 _ R3 (done_bind (α := D) hd3 fun z s3 own4 μ4 w H4 R4 e4 m4 r4 hd4 => ?_))
        cases q2 : f' e z with
        | none => rw [q2] at hd4; exact hd4.elim
        | some y =>
          rw [q2] at hd4
          refine ho' μ4 own4 H4 u w e z y Q R4.sto.fresh ((r2.held gr.ext (List.prefix_refl _)).keep e4.keeps m4 fun a o p q => ⟨fun n => by rw [e4.lab a o q]; exact p n, e4.obj a o q p⟩) (r4.imp fun a p => Tag.P_nc p) q2 fun x5 H5 gr5 rv5 => ?_
          exact hd4 own4 μ4 x5 H5 (R4.grow gr5) gr5.ext (List.prefix_refl _) rv5
    | _ => simp only [q] at hd2; exact hd2.elim
/-- a value that is no list is held in any way -/
theorem sim_cK {v : V} {d : D} (h : ∀ μ own H, Rep S.K μ own H d v) (n : isL d = false) : SimE S Γ g k (tC v) (eC d) := fun own μ ρ s σ H Q R hd =>
  hd own μ v H R .refl (List.prefix_refl _) (RepK.of (h _ _ _) n)
theorem simk_int {i : Int} : SimE S Γ g k (tC (.int i)) (eC (.int i)) := sim_cK (fun _ _ _ => .int i) rfl
theorem simk_bl {b : Bool} : SimE S Γ g k (tC (.bl b)) (eC (.bl b)) := sim_cK (fun _ _ _ => .bl b) rfl
theorem simk_str {x : Str} : SimE S Γ g k (tC (.str x)) (eC (.str x)) := sim_cK (fun _ _ _ => .str x) rfl
theorem simk_non : SimE S Γ g k (tC .non) (eC .non) := sim_cK (fun _ _ _ => .non) rfl
theorem simk_ty {n : String} : SimE S Γ g k (tC (.ty n)) (eC (.ty n)) := sim_cK (fun _ _ _ => .ty n) rfl
theorem simk_tup {t : TA} {ms : List ME} (h : SimA S Γ t (evs ms)) (hl : ms.length ≤ 1000) : SimE S Γ g k (tTup t) (eTup ms) := by
  intro own μ ρ s σ H Q R hd
  refine h own μ ρ s σ H _ R (doneA_bind hd fun ds s1 own1 μ1 vs H1 q R1 e1 m1 r1 hd1 => ⟨?_, fun p hp => ?_⟩)
  · rw [← r1.length, evs_length q]; exact Nat.le_trans hl (by decide)
  · exact hd1 own1 μ1 (.ref p) _ (R1.grow (Grow.upd hp)) (Grow.upd hp).ext (List.prefix_refl _) (RepK.of (Rep.tup (by rw [evs_length q]; exact Nat.le_trans hl (by decide)) (SqT.of upd_same) (r1.keep (Grow.upd hp).keeps (List.prefix_refl _))) rfl)
theorem sim_lc2 {wi wi1 : TI} {tg tg1 : TG} {tt tt1 : TT} {te : TE} {mi mi1 : MI} {mg mg1 : MG} {mt mt1 : MT} {me : ME} {vs vs1 ws ws1 : List Nat} {Γ1 Γ2 : List Nat} {g0 : Tag} (hi : SimI S Γ wi mi) (hg : SimG S.nox Γ Γ1 ws tg mg) (ht : SimT S.nox Γ1 tt mt) (hi1 : SimI S.nox Γ1 wi1 mi1) (hg1 : SimG S.nox Γ1 Γ2 ws1 tg1 mg1) (ht1 : SimT S.nox Γ2 tt1 mt1)
    (he : SimE S.nox Γ2 g0 0 te me) (hw : ∀ j ∈ ws, j ∈ vs) (hw1 : ∀ j ∈ ws1, j ∈ vs1) : SimE S Γ .fresh 1 (tLc2 wi tg tt wi1 tg1 tt1 te vs vs1) (eComp2 mi mg mt mi1 mg1 mt1 me vs vs1) := by
  intro own μ ρ s σ H Q R hd
  refine hi own μ ρ s σ H _ R ?_
  unfold eComp2 at hd
  cases q : mi ρ s with
  | no => rw [q] at hd; exact hd
  | ex e s' => rw [q] at hd; exact hd
  | ok ds s1 =>
  rw [q] at hd
  intro own1 μ1 J H1 R1 e1 m1 it p hp
  have hd1 := Done.step e1 m1 hd
  have lp : own1 p = .tmp := R1.sto.fresh p hp
  -- what is left to be shown of a list so far
  let fin : List D → List D → Sto → Res D := fun acc ys s2 => if (acc ++ ys).length ≤ sizeLine then .ok (.lst (acc ++ ys)) s2 else .no
  let Wd : Nat → Hp → Prop := fun i H' => ∃ (own' : Own) (μ' : List Addr) (s' : Sto) (acc : List D) (vs' : List V), StoOk S.B S.K μ' own' s' H' ∧ Ext own1 H1 own' H' ∧ μ1 <+: μ' ∧ own' p = .tmp ∧ H' p = some (.lst vs') ∧ Reps S.K μ' own' H' acc vs' ∧
      Done S Γ .fresh 1 own1 μ1 ρ σ H1 Q ((compL2 mg mt mi1 mg1 mt1 me vs1 (wipeE ρ vs) (ds.drop i) s').bind (fin acc))
  refine ⟨fun i m H' => m = ds.length - i ∧ i ≤ ds.length ∧ Wd i H', ⟨ds.length, ?_, Nat.zero_le _, ?_⟩, ?_⟩
  · simp
  · exact ⟨own1, μ1, s1, [], [], (R1.grow (Grow.upd hp)).sto, Ext.refl.updT hp, List.prefix_refl _, lp, upd_same, .nil, hd1⟩
  · rintro i m H' ⟨rfl, hil, own', μ', s', acc, vs', so, ex, mm, lp', hp', ra, dn⟩
    obtain ⟨ig, is⟩ := it.2 i own' μ' H' ex.keeps mm
    by_cases hlt : i < ds.length
    · right
      have hget : ds[i]? = some ds[i] := List.getElem?_eq_getElem hlt
      obtain ⟨go, yl⟩ := ig _ hget
      rw [List.drop_eq_getElem_cons hlt] at dn
      unfold compL2 at dn
      refine ⟨go, Wd (i + 1), fun H'' w => ⟨ds.length - (i + 1), by omega, rfl, hlt, w⟩, fun x H2 y => ?_⟩
      obtain ⟨gr, rx⟩ := yl x H2 y
      have R2 : Rel S.B S.K Γ own' μ' ρ s' σ H2 := (R1.after ex mm so).grow gr
      have ex2 : Ext own1 H1 own' H2 := ex.trans gr.ext
      cases qg : mg ds[i] (wipeE ρ vs) with
      | none => rw [qg] at dn; exact dn.elim
      | some ρ1 =>
      simp only [qg] at dn
      refine hg own' μ' (wipeE ρ vs) s' (wipe σ vs) H2 _ x ρ1 _ (R2.wiped vs) rx qg fun σ2 Rg cg => ⟨?_, ?_⟩
      · rw [wipe_chg cg hw]
      refine ht own' μ' ρ1 s' σ2 H2 _ Rg ?_
      rcases nox_cases (mt ρ1 s') with ⟨b, s2, e, e'⟩ | e'
      · rw [e]
        simp only [e', Res.bind] at dn
        intro own3 μ3 H3 R3 e3 m3
        have hp3 : H3 p = some (.lst vs') := e3.obj p _ (gr p _ hp') (fun n => by rw [lp']; intro z; cases z)
        have lp3 : own3 p = .tmp := (e3.lab p _ (gr p _ hp')).trans lp'
        have ra3 : Reps S.K μ3 own3 H3 acc vs' := ra.keep ((Grow.keeps gr).trans e3.keeps) m3
        cases b with
        | false =>
          simp only [Bool.false_eq_true, if_false] at dn
          rw [if_neg Bool.false_ne_true]
          exact ⟨own3, μ3, s2, acc, vs', R3.sto, ex2.trans e3, mm.trans m3, lp3, hp3, ra3, dn⟩
        | true =>
          simp only [if_true] at dn
          rw [if_pos rfl]
          refine hi1 own3 μ3 ρ1 s2 σ2 H3 _ R3 ?_
          rcases nox_cases (mi1 ρ1 s2) with ⟨es, s3, f, f'⟩ | f'
          · rw [f]
            simp only [f', Res.bind] at dn
            intro own4 μ4 J1 H4 R4 e4 m4 it1
            have hp4 : H4 p = some (.lst vs') := e4.obj p _ hp3 (fun n => by rw [lp3]; intro z; cases z)
            have lp4 : own4 p = .tmp := (e4.lab p _ hp3).trans lp3
            have ex4 : Ext own1 H1 own4 H4 := (ex2.trans e3).trans e4
            have mm4 : μ1 <+: μ4 := (mm.trans m3).trans m4
            let rest : List D → Sto → Res (List D) := fun ys s3 => (compL2 mg mt mi1 mg1 mt1 me vs1 (wipeE ρ vs) (ds.drop (i + 1)) s3).bind fun zs s4 => .ok (ys ++ zs) s4
            let Wi : Nat → Hp → Prop := fun j H' => ∃ (own' : Own) (μ' : List Addr) (s' : Sto) (acc : List D) (vs' : List V), StoOk S.B S.K μ' own' s' H' ∧ Ext own4 (upd H4 p (.lst vs')) own' H' ∧ Ext own1 H1 own' H' ∧ μ4 <+: μ' ∧ own' p = .tmp ∧ H' p = some (.lst vs') ∧ Reps S.K μ' own' H' acc vs' ∧
              Done S Γ .fresh 1 own1 μ1 ρ σ H1 Q (((compL mg1 mt1 me (wipeE ρ1 vs1) (es.drop j) s').bind rest).bind (fin acc))
            have u4 : upd H4 p (.lst vs') = H4 := by
              funext b
              by_cases z : b = p
              · subst z; rw [upd_same, hp4]
              · rw [upd_ne z]
            refine ⟨fun j m H' => m = es.length - j ∧ j ≤ es.length ∧ Wi j H', ⟨es.length, by simp, Nat.zero_le _, own4, μ4, s3, acc, vs', R4.sto, by rw [u4]; exact .refl, ex4, List.prefix_refl _, lp4, hp4, ra3.keep e4.keeps m4, ?_⟩, ?_⟩
            · show Done S Γ .fresh 1 own1 μ1 ρ σ H1 Q (((compL mg1 mt1 me (wipeE ρ1 vs1) es s3).bind rest).bind (fin acc))
              cases qz : compL mg1 mt1 me (wipeE ρ1 vs1) es s3 with
              | no => rw [qz] at dn; exact dn
              | ex z t => rw [qz] at dn; exact dn
              | ok ys t => rw [qz] at dn; exact dn
            rintro j m5 H5 ⟨rfl, hjl, own5, μ5, s5, acc5, vs5, so5, exl, ex5, mm5, lp5, hp5, ra5, dn5⟩
            have kp5 : Keeps own4 own5 H4 H5 := by
              have k1 := keeps_tmp (o' := HO.lst vs5) lp4 hp4 (by intro _ z; cases z) (by intro _ _ z; cases z)
              exact k1.trans exl.keeps
            obtain ⟨jg, js⟩ := it1.2 j own5 μ5 H5 kp5 mm5
            by_cases hjt : j < es.length
            · right
              have hgetj : es[j]? = some es[j] := List.getElem?_eq_getElem hjt
              obtain ⟨goj, ylj⟩ := jg _ hgetj
              rw [List.drop_eq_getElem_cons hjt] at dn5
              unfold compL at dn5
              refine ⟨goj, Wi (j + 1), fun H'' w => ⟨es.length - (j + 1), by omega, rfl, hjt, w⟩, fun x5 H6 y5 => ?_⟩
              obtain ⟨gr6, rx6⟩ := ylj x5 H6 y5
              -- the outer frame's slots again, at H6
              have so6 : StoOk S.B S.K μ5 own5 s5 H6 := by
                have Rz : Rel S.B S.K Γ own5 μ5 ρ s5 σ H5 := R1.after ex5 (mm4.trans mm5) so5
                exact (Rz.grow gr6).sto
              have R6 : Rel S.B S.K Γ1 own5 μ5 ρ1 s5 σ2 H6 := by
                have Ra : Rel S.B S.K Γ1 own4 μ4 ρ1 s3 σ2 (upd H4 p (.lst vs5)) := by
                  refine ⟨R4.len, fun i d h => ?_, R4.sto.updT lp4 hp4⟩
                  obtain ⟨v, h1, h2⟩ := R4.slot i d h
                  refine ⟨v, h1, h2.keep (keeps_tmp lp4 hp4 (by intro _ z; cases z) (by intro _ _ z; cases z)) (List.prefix_refl _) fun a o pp r => ⟨pp, by rw [upd_ne (fun z => by subst z; rw [lp4] at pp; cases pp)]; exact r⟩⟩
                exact (Ra.after exl mm5 so5).grow gr6
              cases qg1 : mg1 es[j] (wipeE ρ1 vs1) with
              | none => rw [qg1] at dn5; exact dn5.elim
              | some ρ2 =>
              simp only [qg1] at dn5
              refine hg1 own5 μ5 (wipeE ρ1 vs1) s5 (wipe σ2 vs1) H6 _ x5 ρ2 _ (R6.wiped vs1) rx6 qg1 fun σ3 Rg3 cg3 => ⟨?_, ?_⟩
              · rw [wipe_chg cg3 hw1]
              refine ht1 own5 μ5 ρ2 s5 σ3 H6 _ Rg3 ?_
              have hp6 : H6 p = some (.lst vs5) := gr6 p _ hp5
              rcases nox_cases (mt1 ρ2 s5) with ⟨b7, s7, e7, e7'⟩ | e7'
              · rw [e7]
                simp only [e7', Res.bind] at dn5
                intro own7 μ7 H7 R7 ex7 m7
                have hp7 : H7 p = some (.lst vs5) := ex7.obj p _ hp6 (fun n => by rw [lp5]; intro z; cases z)
                have lp7 : own7 p = .tmp := (ex7.lab p _ hp6).trans lp5
                have ra7 : Reps S.K μ7 own7 H7 acc5 vs5 := ra5.keep ((Grow.keeps gr6).trans ex7.keeps) m7
                have exl7 : Ext own4 (upd H4 p (.lst vs5)) own7 H7 := (exl.trans gr6.ext).trans ex7
                have ex17 : Ext own1 H1 own7 H7 := (ex5.trans gr6.ext).trans ex7
                cases b7 with
                | false =>
                  simp only [Bool.false_eq_true, if_false] at dn5
                  rw [if_neg Bool.false_ne_true]
                  exact ⟨own7, μ7, s7, acc5, vs5, R7.sto, exl7, ex17, mm5.trans m7, lp7, hp7, ra7, dn5⟩
                | true =>
                  simp only [if_true] at dn5
                  rw [if_pos rfl]
                  refine he own7 μ7 ρ2 s7 σ3 H7 _ R7 ?_
                  rcases nox_cases (me ρ2 s7) with ⟨yd, s8, f8, f8'⟩ | f8'
                  · rw [f8]
                    simp only [f8', Res.bind] at dn5
                    intro own8 μ8 yv H8 R8 ex8 m8 ry
                    have hp8 : H8 p = some (.lst vs5) := ex8.obj p _ hp7 (fun n => by rw [lp7]; intro z; cases z)
                    have lp8 : own8 p = .tmp := (ex8.lab p _ hp7).trans lp7
                    have ra8 : Reps S.K μ8 own8 H8 acc5 vs5 := ra7.keep ex8.keeps m8
                    have kp8 : Keeps own8 own8 H8 (upd H8 p (.lst (vs5 ++ [yv]))) := keeps_tmp lp8 hp8 (by intro _ z; cases z) (by intro _ _ z; cases z)
                    -- the bound, and what is left
                    have key : acc5.length < sizeLine ∧ Done S Γ .fresh 1 own1 μ1 ρ σ H1 Q (((compL mg1 mt1 me (wipeE ρ1 vs1) (es.drop (j + 1)) s8).bind rest).bind (fin (acc5 ++ [yd]))) := by
                      cases qc : compL mg1 mt1 me (wipeE ρ1 vs1) (es.drop (j + 1)) s8 with
                      | no => rw [qc] at dn5; exact dn5.elim
                      | ex z t =>
                        exfalso
                        exact compL_nox _ _ _ _ _ _ _ _ qc
                      | ok ys t =>
                        rw [qc] at dn5
                        simp only [Res.bind] at dn5 ⊢
                        show _ ∧ Done S Γ .fresh 1 own1 μ1 ρ σ H1 Q (((compL2 mg mt mi1 mg1 mt1 me vs1 (wipeE ρ vs) (ds.drop (i + 1)) t).bind fun zs s4 => .ok (ys ++ zs) s4).bind (fin (acc5 ++ [yd])))
                        have dn6 : Done S Γ .fresh 1 own1 μ1 ρ σ H1 Q (((compL2 mg mt mi1 mg1 mt1 me vs1 (wipeE ρ vs) (ds.drop (i + 1)) t).bind fun zs s4 => .ok ((yd :: ys) ++ zs) s4).bind (fin acc5)) := dn5
                        cases qd : compL2 mg mt mi1 mg1 mt1 me vs1 (wipeE ρ vs) (ds.drop (i + 1)) t with
                        | no => rw [qd] at dn6; exact dn6.elim
                        | ex z t =>
                          exfalso
                          exact compL2_nox _ _ _ _ _ _ _ _ _ _ _ _ qd
                        | ok zs u =>
                          rw [qd] at dn6
                          simp only [Res.bind] at dn6 ⊢
                          have e9 : acc5 ++ ((yd :: ys) ++ zs) = (acc5 ++ [yd]) ++ (ys ++ zs) := by simp
                          show _ ∧ Done S Γ .fresh 1 own1 μ1 ρ σ H1 Q (if ((acc5 ++ [yd]) ++ (ys ++ zs)).length ≤ sizeLine then .ok (.lst ((acc5 ++ [yd]) ++ (ys ++ zs))) u else .no)
                          have dn7 : Done S Γ .fresh 1 own1 μ1 ρ σ H1 Q (if (acc5 ++ ((yd :: ys) ++ zs)).length ≤ sizeLine then .ok (.lst (acc5 ++ ((yd :: ys) ++ zs))) u else .no) := dn6
                          rw [e9] at dn7
                          refine ⟨?_, dn7⟩
                          by_cases hz : ((acc5 ++ [yd]) ++ (ys ++ zs)).length ≤ sizeLine
                          · rw [List.length_append, List.length_append, List.length_singleton] at hz
                            omega
                          · rw [if_neg hz] at dn7; exact dn7.elim
                    refine ⟨vs5, hp8, by rw [← ra8.length]; exact key.1, own8, μ8, s8, acc5 ++ [yd], vs5 ++ [yv], R8.sto.updT lp8 hp8, ?_, (ex17.trans ex8).updT hp, (mm5.trans m7).trans m8, lp8, upd_same, (ra8.append (Reps.one ry)).keep kp8 (List.prefix_refl _), key.2⟩
                    have ez := exl7.trans ex8
                    refine ⟨fun a o h n => ?_, fun a xs h => ?_, fun a b u h => ?_, fun a o h => ?_, fun a o h => ?_⟩
                    · by_cases z : a = p
                      · subst z; rw [upd_same] at h ⊢; exact h
                      · rw [upd_ne z] at h ⊢
                        exact ez.obj a o (by rw [upd_ne z]; exact h) n
                    · by_cases z : a = p
                      · subst z; rw [upd_same] at h; cases h
                      · rw [upd_ne z] at h ⊢
                        exact ez.tup a xs (by rw [upd_ne z]; exact h)
                    · by_cases z : a = p
                      · subst z; rw [upd_same] at h; cases h
                      · rw [upd_ne z] at h ⊢
                        exact ez.frzs a b u (by rw [upd_ne z]; exact h)
                    · by_cases z : a = p
                      · subst z; rw [lp8, lp4]
                      · rw [upd_ne z] at h
                        exact ez.lab a o (by rw [upd_ne z]; exact h)
                    · by_cases z : a = p
                      · subst z; exact ⟨_, upd_same⟩
                      · rw [upd_ne z] at h ⊢
                        exact ez.there a o (by rw [upd_ne z]; exact h)
                  · simp only [f8', Res.bind] at dn5; exact dn5.elim
              · simp only [e7', Res.bind] at dn5; exact dn5.elim
            · left
              have hj : j = es.length := by omega
              subst hj
              refine ⟨js (Nat.le_refl _), ?_⟩
              rw [List.drop_length] at dn5
              refine ⟨own5, μ5, s5, acc5, vs5, so5, ex5, mm4.trans mm5, lp5, hp5, ra5, ?_⟩
              have dn6 : Done S Γ .fresh 1 own1 μ1 ρ σ H1 Q (((compL2 mg mt mi1 mg1 mt1 me vs1 (wipeE ρ vs) (ds.drop (i + 1)) s5).bind fun zs s4 => .ok ([] ++ zs) s4).bind (fin acc5)) := dn5
              cases qd : compL2 mg mt mi1 mg1 mt1 me vs1 (wipeE ρ vs) (ds.drop (i + 1)) s5 with
              | no => rw [qd] at dn6; exact dn6
              | ex z t => rw [qd] at dn6; exact dn6
              | ok zs u => rw [qd] at dn6; exact dn6
          · simp only [f', Res.bind] at dn; exact dn.elim
      · simp only [e', Res.bind] at dn; exact dn.elim
    · left
      have hi : i = ds.length := by omega
      subst hi
      refine ⟨is (Nat.le_refl _), ?_⟩
      rw [List.drop_length] at dn
      have dn2 : Done S Γ .fresh 1 own1 μ1 ρ σ H1 Q (if (acc ++ []).length ≤ sizeLine then .ok (.lst (acc ++ [])) s' else .no) := dn
      rw [List.append_nil] at dn2
      by_cases hz : acc.length ≤ sizeLine
      · rw [if_pos hz] at dn2
        exact dn2 own' μ' (.ref p) H' (R1.after ex mm so) ex mm (RepK.newL (k := 0) hp' ⟨lp', hp⟩ ra hz)
      · rw [if_neg hz] at dn2; exact dn2.elim
end
end M
/-! M8: joins, ranges as lists, sorted ints, methods of lists. -/
namespace M
open PySem PySem.Spec PyProof.Rows L2
theorem u65 {k : Nat} {A : Around} (hr : Room k A) : A.units + 65 < cLine := by have := hr.un; omega
abbrev TRg := St → Hp → (Int → Int → Hp → Prop) → Prop
abbrev MRg := Env → Sto → Res (Int × Int)
def rg1 (m : ME) : MRg := fun ρ s => (m ρ s).bind fun d s1 => match d with
  | .int j => .ok (0, j) s1
  | _ => .no
def rg2 (a b : ME) : MRg := fun ρ s => (a ρ s).bind fun d s1 => (b ρ s1).bind fun e s2 => match d, e with
  | .int i, .int j => .ok (i, j) s2
  | _, _ => .no
def rgOk (a b : Int) : Bool := decide (-(2 ^ 62) ≤ a ∧ a < 2 ^ 62 ∧ -(2 ^ 62) ≤ b ∧ b < 2 ^ 62 ∧ b - a ≤ 16777216)
def eLstRg (r : MRg) : ME := fun ρ s => (r ρ s).bind fun p s1 => if rgOk p.1 p.2 then .ok (.lst (rngD p.1 (p.2 - p.1).toNat)) s1 else .no
def eTupRg (r : MRg) : ME := fun ρ s => (r ρ s).bind fun p s1 => if rgOk p.1 p.2 then .ok (.tup (rngD p.1 (p.2 - p.1).toNat)) s1 else .no
def isort (ns : List Int) : List Int := ns.mergeSort (fun a b => decide (a ≤ b))
def oSortedI : D → Option D
  | .lst ds => (intsD ds).map fun ns => .lst ((isort ns).map .int)
  | _ => none
/-- o.m(e), o of a kind that p tells -/
def eM1 (p : D → Bool) (f : D → D → Option D) (a b : ME) : ME := fun ρ s => (a ρ s).bind fun d s1 => if p d then (b ρ s1).bind fun e s2 => ofO (f d e) s2 else .no
def idxD (p : PyData) : List PyData → Nat → Option Nat
  | [], _ => none
  | z :: zs, n => if PyData.eqv z p then some n else idxD p zs (n + 1)
def oIndex (x y : D) : Option D := match x with
  | .lst ds => match D.toPy y, D.toPys ds with
    | some p, some ps => if SeqAt.shaped (.list ps) = true ∧ SeqAt.shaped p = true then (idxD p ps 0).map fun n => .int (n : Nat) else none
    | _, _ => none
  | _ => none
section
variable {S : Srd} {Γ : List Nat} {g : Tag} {k k1 k2 : Nat} {X : Cx}
theorem sim_outn {Γ1 Γ2 b c : List Nat} {r : Nat} {t : TS} {m : MS} (h : SimS S ⟨Γ1, b, c, r⟩ Γ t m) (l : Lower Γ2 Γ1) : SimS S ⟨Γ2, b, c, r⟩ Γ t m := sim_out h l (fun _ => .inl rfl) (fun _ => .inl rfl) rfl
def DoneR (S : Srd) (Γ : List Nat) (own : Own) (μ : List Addr) (ρ : Env) (σ : St) (H : Hp) (Q : Int → Int → Hp → Prop) : Res (Int × Int) → Prop
  | .ok p s' => ∀ own' μ' H', Rel S.B S.K Γ own' μ' ρ s' σ H' → Ext own H own' H' → μ <+: μ' → Q p.1 p.2 H'
  | .ex e s' => ∀ own' μ' H' c x, Rel S.B S.K Γ own' μ' ρ s' σ H' → Ext own H own' H' → μ <+: μ' → RepX S.K μ' own' H' S.CA e c x → S.E c x H'
  | .no => False
def SimR (S : Srd) (Γ : List Nat) (t : TRg) (m : MRg) : Prop := ∀ own μ ρ s σ H Q, Rel S.B S.K Γ own μ ρ s σ H → DoneR S Γ own μ ρ σ H Q (m ρ s) → t σ H Q
theorem DoneR.step {own own1 : Own} {μ μ1 : List Addr} {ρ : Env} {σ : St} {H H1 : Hp} {Q : Int → Int → Hp → Prop} (e : Ext own H own1 H1) (m : μ <+: μ1) : ∀ {r : Res (Int × Int)}, DoneR S Γ own μ ρ σ H Q r → DoneR S Γ own1 μ1 ρ σ H1 Q r
  | .ok d s', h => fun own' μ' H' R e' m' => h own' μ' H' R (e.trans e') (m.trans m')
  | .ex x s', h => fun own' μ' H' c y R e' m' rx => h own' μ' H' c y R (e.trans e') (m.trans m') rx
  | .no, h => h
theorem doneR_bind {own : Own} {μ : List Addr} {ρ : Env} {σ : St} {H : Hp} {g1 : Tag} {k1 : Nat} {r : Res D} {f : D → Sto → Res (Int × Int)} {Q : Int → Int → Hp → Prop} {Q1 : VK}
    (hd : DoneR S Γ own μ ρ σ H Q (r.bind f)) (hn : ∀ d s1 own1 μ1 v H1, Rel S.B S.K Γ own1 μ1 ρ s1 σ H1 → Ext own H own1 H1 → μ <+: μ1 → RepK S.K μ1 own1 H1 k1 (g1.P own1 H) d v → DoneR S Γ own1 μ1 ρ σ H1 Q (f d s1) → Q1 v H1) :
    Done S Γ g1 k1 own μ ρ σ H Q1 r := by
  cases r with
  | no => exact hd
  | ex e s' => exact hd
  | ok d s1 => exact fun own1 μ1 v H1 R1 e1 m1 r1 => hn d s1 own1 μ1 v H1 R1 e1 m1 r1 (DoneR.step e1 m1 hd)
theorem sim_rg1 {t : TE} {m : ME} (h : SimE S Γ .fresh 0 t m) : SimR S Γ (tRg1 t) (rg1 m) := by
  intro own μ ρ s σ H Q R hd
  refine h own μ ρ s σ H _ R (doneR_bind hd fun d s1 own1 μ1 v H1 R1 e1 m1 r1 hd1 => ?_)
  cases r1 with
  | int j => exact ⟨j, rfl, hd1 own1 μ1 H1 R1 .refl (List.prefix_refl _)⟩
  | _ => exact False.elim hd1
theorem sim_rg2 {t u : TE} {a b : ME} (h : SimE S Γ .fresh 0 t a) (h' : SimE S Γ .fresh 0 u b) : SimR S Γ (tRg2 t u) (rg2 a b) := by
  intro own μ ρ s σ H Q R hd
  refine h own μ ρ s σ H _ R (doneR_bind hd fun d s1 own1 μ1 v H1 R1 e1 m1 r1 hd1 => ?_)
  refine h' own1 μ1 ρ s1 σ H1 _ R1 (doneR_bind hd1 fun e s2 own2 μ2 w H2 R2 e2 m2 r2 hd2 => ?_)
  cases r1 with
  | int i =>
    cases r2 with
    | int j => exact ⟨i, j, rfl, rfl, hd2 own2 μ2 H2 R2 .refl (List.prefix_refl _)⟩
    | _ => exact False.elim hd2
  | _ => exact False.elim hd2
theorem rgV_reps {K : PySem.W.Frag} {μ : List Addr} {own : Own} {H : Hp} (a b : Int) : Reps K μ own H (rngD a (b - a).toNat) (rgV a b) := by
  have : rngD a (b - a).toNat = ((List.range (b - a).toNat).map fun i => a + ((i : Nat) : Int)).map D.int := by unfold rngD; rw [List.map_map]; rfl
  have e2 : rgV a b = ((List.range (b - a).toNat).map fun i => a + ((i : Nat) : Int)).map V.int := by unfold rgV; rw [List.map_map]; rfl
  rw [this, e2]
  exact Reps.ints _
theorem rgOk_of {a b : Int} (h : rgOk a b = true) : RgOk a b ∧ (rngD a (b - a).toNat).length ≤ sizeLine := by
  have h' := of_decide_eq_true h
  refine ⟨⟨h'.1, h'.2.1, h'.2.2.1, h'.2.2.2.1, by omega⟩, ?_⟩
  unfold rngD
  rw [List.length_map, List.length_range, sizeLine_eq]
  omega
theorem doneRE {own : Own} {μ : List Addr} {ρ : Env} {σ : St} {H : Hp} {r : Res (Int × Int)} {f : Int × Int → Sto → Res D} {Q : VK} {Q1 : Int → Int → Hp → Prop}
    (hd : Done S Γ g k own μ ρ σ H Q (r.bind f)) (hn : ∀ p s1 own1 μ1 H1, Rel S.B S.K Γ own1 μ1 ρ s1 σ H1 → Ext own H own1 H1 → μ <+: μ1 → Done S Γ g k own1 μ1 ρ σ H1 Q (f p s1) → Q1 p.1 p.2 H1) :
    DoneR S Γ own μ ρ σ H Q1 r := by
  cases r with
  | no => exact hd
  | ex e s' => exact hd
  | ok d s1 => exact fun own1 μ1 H1 R1 e1 m1 => hn d s1 own1 μ1 H1 R1 e1 m1 (Done.step e1 m1 hd)
theorem sim_lstRg {t : TRg} {m : MRg} (h : SimR S Γ t m) : SimE S Γ .fresh 1 (tLstRg t) (eLstRg m) := by
  intro own μ ρ s σ H Q R hd
  refine h own μ ρ s σ H _ R (doneRE hd fun p s1 own1 μ1 H1 R1 e1 m1 hd1 => ?_)
  by_cases c : rgOk p.1 p.2 = true
  · simp only [c, if_true] at hd1
    obtain ⟨h1, h2⟩ := rgOk_of c
    exact ⟨h1, fun q hq => hd1 own1 μ1 _ _ (R1.grow (Grow.upd hq)) (Grow.upd hq).ext (List.prefix_refl _) (RepK.newL (k := 0) upd_same ⟨R1.sto.fresh q hq, hq⟩ (rgV_reps _ _) h2)⟩
  · simp only [Bool.not_eq_true] at c
    simp only [c] at hd1
    exact False.elim hd1
theorem sim_tupRg {t : TRg} {m : MRg} (h : SimR S Γ t m) : SimE S Γ g 0 (tTupRg t) (eTupRg m) := by
  refine sim_tag0 (g := .fresh) ?_
  intro own μ ρ s σ H Q R hd
  refine h own μ ρ s σ H _ R (doneRE hd fun p s1 own1 μ1 H1 R1 e1 m1 hd1 => ?_)
  by_cases c : rgOk p.1 p.2 = true
  · simp only [c, if_true] at hd1
    obtain ⟨h1, h2⟩ := rgOk_of c
    exact ⟨h1, fun q hq => hd1 own1 μ1 _ _ (R1.grow (Grow.upd hq)) (Grow.upd hq).ext (List.prefix_refl _) (Rep.tup h2 (SqT.of upd_same) (rgV_reps _ _))⟩
  · simp only [Bool.not_eq_true] at c
    simp only [c] at hd1
    exact False.elim hd1
theorem isort_of {a ns : List Int} (hp : a.Perm ns) (ha : a.Pairwise (· ≤ ·)) : a = isort ns := by
  have h1 := List.mergeSort_perm ns (fun a b => decide (a ≤ b))
  have h2 : (isort ns).Pairwise (· ≤ ·) := by
    have := List.pairwise_mergeSort (le := fun (a b : Int) => decide (a ≤ b)) (fun a b c h1 h2 => by simp at *; omega) (fun a b => by simp; omega) ns
    exact this.imp fun h => by simpa using h
  exact List.Perm.eq_of_pairwise (fun x y _ _ h1 h2 => Int.le_antisymm h1 h2) ha h2 (hp.trans h1.symm)
theorem isort_length (ns : List Int) : (isort ns).length = ns.length := (List.mergeSort_perm ns _).length_eq
theorem intsD_length : ∀ {ds : List D} {ns : List Int}, intsD ds = some ns → ns.length = ds.length
  | [], _, e => by simp only [intsD, Option.some.injEq] at e; subst e; rfl
  | d :: ds, ns, e => by
    cases d with
    | int i =>
      simp only [intsD, Option.map_eq_some_iff] at e
      obtain ⟨bs, e1, e2⟩ := e
      subst e2
      rw [List.length_cons, List.length_cons, intsD_length e1]
    | _ => simp [intsD] at e
theorem o_sortedI (hk : k1 ≤ 1) : Op1 S k1 1 (fun x => rSortedI S.K [x]) oSortedI := fun μ own H x d1 d Q fr r1 e q => by
  unfold oSortedI at e
  split at e
  · obtain ⟨ns, e1, e2⟩ := Option.map_eq_some_iff.mp e
    subst e2
    obtain ⟨a, vs, rfl, s, t, z⟩ := r1.list hk
    have := t.intsD e1
    subst this
    refine ⟨a, ns, rfl, SqL.of s, fun ns' p hp ho hn => ?_⟩
    have := isort_of hp ho
    subst this
    exact q _ _ (Grow.upd hn) (RepK.newL (k := 0) upd_same ⟨fr p hn, hn⟩ (Reps.ints _) (by rw [List.length_map, isort_length, intsD_length e1]; exact z))
  · cases e
theorem sim_m1 {g1 g2 : Tag} {T : String} {p : D → Bool} {r : V → List V → Hp → VK → Prop} {f : D → D → Option D} {ta tb : TE} {a b : ME} (ho : Op2 S k1 0 k (fun x y => r x [y]) f)
    (hty : ∀ μ own H d v, p d = true → RepK S.K μ own H k1 (fun a => NonCell own a) d v → tyV S.K T v H) (ha : SimE S Γ g1 k1 ta a) (hb : SimE S Γ g2 0 tb b) : SimE S Γ .fresh k (tBM S.K T r ta (tCons tb tNil)) (eM1 p f a b) := by
  intro own μ ρ s σ H Q R hd
  refine ha own μ ρ s σ H _ R (done_bind (α := D) hd fun d s1 own1 μ1 v H1 R1 e1 m1 r1 hd1 => ?_)
  by_cases c : p d = true
  · simp only [c, if_true] at hd1
    refine ⟨hty μ1 own1 H1 d v c (r1.imp fun a p => Tag.P_nc p), hb own1 μ1 ρ s1 σ H1 _ R1 (done_bind (α := D) hd1 fun e s2 own2 μ2 u H2 R2 e2 m2 r2 hd2 => ?_)⟩
    cases q : f d e with
    | none => rw [q] at hd2; exact hd2.elim
    | some z =>
      rw [q] at hd2
      refine ho μ2 own2 H2 v u d e z Q R2.sto.fresh (r1.held e2 m2) r2 q fun x H3 gr rv => ?_
      exact hd2 own2 μ2 x H3 (R2.grow gr) gr.ext (List.prefix_refl _) rv
  · simp only [Bool.not_eq_true] at c
    simp only [c] at hd1
    exact False.elim hd1
theorem ty_list (hk : k1 ≤ 1) : ∀ μ own H d v, isL d = true → RepK S.K μ own H k1 (fun a => NonCell own a) d v → tyV S.K "list" v H := fun μ own H d v c r => by
  cases d with
  | lst ds =>
    obtain ⟨a, vs, rfl, s, t, z⟩ := r.list hk
    exact .inl ⟨rfl, vs, SqL.of s⟩
  | _ => cases c
theorem idxD_spec {p : PyData} : ∀ {zs : List PyData} {n m : Nat}, idxD p zs n = some m → n ≤ m ∧ ∃ z, zs[m - n]? = some z ∧ PyData.eqv z p = true ∧ ∀ (i : Nat) (z' : PyData), i < m - n → zs[i]? = some z' → PyData.eqv z' p = false
  | [], n, m, h => by cases h
  | z :: zs, n, m, h => by
    unfold idxD at h
    by_cases c : PyData.eqv z p = true
    · rw [if_pos c] at h
      cases h
      exact ⟨Nat.le_refl _, z, by rw [Nat.sub_self]; rfl, c, fun i z' hi => by omega⟩
    · rw [if_neg c] at h
      obtain ⟨h1, w, h2, h3, h4⟩ := idxD_spec h
      have e : m - n = (m - (n + 1)) + 1 := by omega
      refine ⟨by omega, w, by rw [e, List.getElem?_cons_succ]; exact h2, h3, fun i z' hi hz => ?_⟩
      cases i with
      | zero =>
        simp only [List.getElem?_cons_zero, Option.some.injEq] at hz
        subst hz
        simpa using c
      | succ i => exact h4 i z' (by omega) (by simpa using hz)
theorem o_index (hk : k1 ≤ 1) : Op2 S k1 0 k (fun x y => rIndexD S.K x [y]) oIndex := fun μ own H x y d1 d2 d Q fr r1 r2 e q => by
  unfold oIndex at e
  split at e
  · split at e
    · rename_i p ps e1 e2
      split at e
      · rename_i c
        obtain ⟨n, e3, e4⟩ := Option.map_eq_some_iff.mp e
        subst e4
        obtain ⟨a, vs, rfl, s, t, z⟩ := r1.list hk
        obtain ⟨_, w, h2, h3, h4⟩ := idxD_spec e3
        rw [Nat.sub_zero] at h2 h4
        exact ⟨a, y, p, ps, n, w, rfl, rfl, .lst (SqL.of s) (t.dp e2), Rep.dp r2 e1, c.1, c.2, h2, h3, h4, q _ _ (Grow.refl H) (RepK.of (.int _) rfl)⟩
      · cases e
    · cases e
  · cases e
end
end M
/-! M9: the hand layer's rules with the written part named. -/
namespace M
open PySem PySem.Spec PyProof.Rows L2
theorem lenOk {n : Nat} (h : Nat.ble n 1000 = true) : n ≤ 1000 := Nat.le_of_ble_eq_true h
section
variable {X : Cx} {BB : Bd} {K : PySem.W.Frag}
theorem opAdd (K : PySem.W.Frag) (h : X.K = K := by rfl) : OpR X (binaryOp .Add) (rAddG K) := h ▸ op_addG
theorem opEq (K : PySem.W.Frag) (hu : X.A.units + 64 < cLine) (h : X.K = K := by rfl) : OpR X (compareOp .Eq) (rEqD K) := h ▸ op_eqD hu
theorem opNe (K : PySem.W.Frag) (hu : X.A.units + 64 < cLine) (h : X.K = K := by rfl) : OpR X (compareOp .NotEq) (rNeD K) := h ▸ op_neD hu
theorem opIn (K : PySem.W.Frag) (hu : X.A.units + 65 < cLine) (h : X.K = K := by rfl) : OpR X (compareOp .In) (rInG K) := h ▸ op_inG hu
theorem opNotIn (K : PySem.W.Frag) (hu : X.A.units + 65 < cLine) (h : X.K = K := by rfl) : OpR X (compareOp .NotIn) (rNotInG K) := h ▸ op_notInG hu
theorem callLen (K : PySem.W.Frag) (h : X.K = K := by rfl) : CallR X (.builtin "len") (rLenG K) := h ▸ call_lenG
theorem callIsi (K : PySem.W.Frag) (h : X.K = K := by rfl) : CallR X (.builtin "isinstance") (rIsi K) := h ▸ call_isi
theorem callAll (K : PySem.W.Frag) (hc : X.calm = true) (h : X.K = K := by rfl) : CallR X (.builtin "all") (rAll K) := h ▸ cr_all hc
theorem callAny (K : PySem.W.Frag) (hc : X.calm = true) (h : X.K = K := by rfl) : CallR X (.builtin "any") (rAny K) := h ▸ cr_any hc
theorem callSum (K : PySem.W.Frag) (hc : X.calm = true) (h : X.K = K := by rfl) : CallR X (.builtin "sum") (rSum K) := h ▸ cr_sum hc
theorem callSortedI (K : PySem.W.Frag) (h : X.K = K := by rfl) : CallR X (.builtin "sorted") (rSortedI K) := h ▸ cr_sortedI
def rTupleOf (K : PySem.W.Frag) : List V → Hp → VK → Prop := fun xs H Q => ∃ p ys, xs = [.ref p] ∧ ((SqL K H p ys ∧ ∀ l, H l = none → Q (.ref l) (upd H l (.tup ys))) ∨ (SqT K H p ys ∧ Q (.ref p) H))
def rListOf (K : PySem.W.Frag) : List V → Hp → VK → Prop := fun xs H Q => ∃ p ys, xs = [.ref p] ∧ (SqL K H p ys ∨ SqT K H p ys) ∧ ∀ l, H l = none → Q (.ref l) (upd H l (.lst ys))
theorem callTuple (K : PySem.W.Frag) (h : X.K = K := by rfl) : CallR X (.type "tuple") (rTupleOf K) := h ▸ call_tuple_of
theorem callList (K : PySem.W.Frag) (h : X.K = K := by rfl) : CallR X (.type "list") (rListOf K) := h ▸ call_list_of
theorem ixSeq (K : PySem.W.Frag) (h : X.K = K := by rfl) : IxR X (rIx K) := h ▸ ix_seq
theorem slG (K : PySem.W.Frag) (h : X.K = K := by rfl) : SlR X (rSlG K) := h ▸ sl_G
theorem mtIndex (K : PySem.W.Frag) (hu : X.A.units + 65 < cLine) (h : X.K = K := by rfl) : MtR X "list.index" (rIndexD K) := h ▸ mt_indexD hu
theorem piSeq (K : PySem.W.Frag) {tg l : Expr} {tl : TE} (hl : PE X l tl) (h : X.K = K := by rfl) : PI X tg l (iSeq K tl) := h ▸ pi_seq hl
theorem pgTup (K : PySem.W.Frag) {es : List Expr} {k : Nat} {pos : Pos} {t : TGs} {n : Nat} (hc : X.calm = true) (h : PGs X es t)
    (hn : (assignEach es X.env).length = n := by rfl) (hst : (assignEach es X.env).findIdx? (·.1) = none := by rfl) (hK : X.K = K := by rfl) : PG X (.Tuple es k pos) (gTup K n t) := hK ▸ pg_tup hc h hn hst
theorem ptTruth (K : PySem.W.Frag) {a : Expr} {ta : TE} (ha : PE X a ta) (he : ∀ whole, isTrue a X.env whole = (do let v ← whole; standAt a.pos; holding [v] (truthy v))) (hK : X.K = K := by rfl) :
    PT X a (fun σ H Q => ta σ H fun x H' => ∃ k, TruV K x H' k ∧ Q k H') := hK ▸ pt_truth ha he
theorem peBm (K : PySem.W.Frag) {o e : Expr} {es : List Expr} {to : TE} {t : TA} {name : Str} {apos cpos : Pos} {T id : String} {r : V → List V → Hp → VK → Prop} (pa : PlainAttrs T) (slot : Slot T name id) (hty : typeOf (.builtin id) = pure (.type "method_descriptor")) (hm : MtR X id r) (ho : PE X o to) (ha : PA X (e :: es) t)
    (hbase : attributeBase o name X.env (eval o X.env) = eval o X.env := by rfl)
    (hfew : ((backTo cpos (starEach (e :: es) X.env)).all (fun x => !x.1) && (backToKw cpos (keywordEach [] X.env)).all (fun x => x.1.isSome)
      && decide ((e :: es).length + ([] : List Keyword).length + (if ([] : List Keyword).isEmpty then 0 else 1) < 30)) = true := by rfl)
    (hline : (apos.endLine == cpos.line) = true := by rfl) (hs : starEach (e :: es) X.env = (false, eval e X.env) :: starEach es X.env := by rfl) (hplain : (backTo cpos (starEach es X.env)).any (·.1) = false := by rfl) (hK : X.K = K := by rfl) :
    PE X (.Call (.Attribute o name apos) (e :: es) [] cpos) (tBM K T r to t) := hK ▸ pe_bm pa slot hty hm ho ha hbase hfew hline hs hplain
end
end M
/-! M10: sorted, of data of any depth. -/
namespace M
open PySem PySem.Spec PyProof.Rows L2
/-- a list's items, each with the data it stands for -/
def rSortedD (K : PySem.W.Frag) : List V → Hp → VK → Prop := fun xs H Q => ∃ (a : Addr) (bs : List (V × PyData)), xs = [V.ref a] ∧ SqL K H a (bs.map (·.1)) ∧ (∀ b ∈ bs, Dp K H b.1 b.2) ∧
  PySem.W.AllAlike (bs.map (·.2)) ∧ PySem.W.Sortable (bs.map (·.2)) ∧ (∀ b ∈ bs, b.2.depth ≤ 60) ∧
  ∀ (p : Addr), H p = none → Q (.ref p) (upd H p (.lst ((bs.mergeSort (PySem.W.dataLe false (·.2))).map (·.1))))
theorem each_of {s : Shared} {X : Cx} {pins : List (Addr × Obj)} {σ : St} {H : Hp} (I : Inv X pins σ H s) : ∀ {bs : List (V × PyData)} {vs : List Value}, Vals (bs.map (·.1)) vs → (∀ b ∈ bs, Dp X.K H b.1 b.2) →
    PySem.W.EachIs (fun v (b : V × PyData) => RelV b.1 v) vs bs ∧ PySem.W.EachIs (fun v (b : V × PyData) => ∃ as, Reads s.heap v b.2 as) vs bs
  | [], _, h, _ => by cases h; exact ⟨.nil, .nil⟩
  | b :: bs, _, h, hd => by
    rw [List.map_cons] at h
    cases h with
    | cons h1 h2 =>
      obtain ⟨i1, i2⟩ := each_of I h2 fun c hc => hd c (List.mem_cons_of_mem _ hc)
      exact ⟨.cons h1 i1, .cons (Dp.reads I _ _ _ (hd b List.mem_cons_self) h1) i2⟩
theorem each_back : ∀ {bs : List (V × PyData)} {vs : List Value}, PySem.W.EachIs (fun v (b : V × PyData) => RelV b.1 v) vs bs → Vals (bs.map (·.1)) vs
  | [], _, h => by cases h; exact .nil
  | b :: bs, _, h => by
    cases h with
    | cons h1 h2 => exact .cons h1 (each_back h2)
theorem cr_sortedD {X : Cx} (hu : X.A.units + 65 < cLine) : CallR X (.builtin "sorted") (rSortedD X.K) := by
  intro pins s σ H vs us Q I r h
  obtain ⟨a, bs, rfl, hs, hd, hal, hk, hdp, q⟩ := h
  obtain ⟨its, rv, hl, hz⟩ := I.list hs
  rw [Vals.ref1 r]
  obtain ⟨e1, e2⟩ := each_of I rv hd
  rw [List.length_map] at hz
  refine PySem.W.sorted_data hl.isList e1 e2 hal hk hz (fun b hb => by have := hdp b hb; omega) fun out ho he => ?_
  obtain ⟨ep, he'⟩ := PyProof.Rows.sortedAll_at s.heap its out.toArray
  have hlen : ((bs.mergeSort (PySem.W.dataLe false (·.2))).map (·.1)).length ≤ sizeLine := by
    rw [List.length_map, List.length_mergeSort]
    exact hz
  exact ⟨.ref _, upd H (s.heap.objs.size + 1) (.lst ((bs.mergeSort (PySem.W.dataLe false (·.2))).map (·.1))), I.laid (t' := s.toks) (fun _ _ => PyProof.Rows.sortedAll_old) (Nat.le_succ _) ⟨hlen, out, ep, each_back he, he'⟩, rfl, q _ (I.hok.fresh (Nat.le_succ _))⟩
def pyD (d : D) : PyData := (D.toPy d).getD .none
def leD (d e : D) : Bool := PySem.W.dataLe false pyD d e
def tupC : PyData → Bool
  | .tuple (_ :: _) => true
  | _ => false
def noNT : PyData → Bool
  | .none => false
  | .tuple _ => false
  | _ => true
def sortOk (ps : List PyData) : Bool := (ps.all fun p => ps.all fun q => PySem.W.alike p q) && (ps.all tupC || ps.all noNT) && ps.all fun p => decide (p.depth ≤ 60)
def oSortedD (x : D) : Option D := match x with
  | .lst ds => match D.toPys ds with
    | some ps => if sortOk ps = true then some (.lst (ds.mergeSort leD)) else none
    | none => none
  | _ => none
theorem sortOk_of {ps : List PyData} (h : sortOk ps = true) : PySem.W.AllAlike ps ∧ PySem.W.Sortable ps ∧ ∀ p ∈ ps, p.depth ≤ 60 := by
  unfold sortOk at h
  rw [Bool.and_eq_true, Bool.and_eq_true, Bool.or_eq_true] at h
  obtain ⟨⟨h1, h2⟩, h3⟩ := h
  refine ⟨fun d hd e he => List.all_eq_true.mp (List.all_eq_true.mp h1 d hd) e he, ?_, fun p hp => of_decide_eq_true (List.all_eq_true.mp h3 p hp)⟩
  rcases h2 with h2 | h2
  · refine .inl fun d hd => ?_
    have := List.all_eq_true.mp h2 d hd
    unfold tupC at this
    split at this
    · exact ⟨_, _, rfl⟩
    · cases this
  · refine .inr fun d hd => ?_
    have := List.all_eq_true.mp h2 d hd
    refine ⟨fun e => ?_, fun xs e => ?_⟩ <;> (subst e; cases this)
/-- items with their values -/
theorem reps_zip {K : PySem.W.Frag} {μ : List Addr} {own : Own} {H : Hp} : ∀ {ds : List D} {vs : List V}, Reps K μ own H ds vs → ∃ T : List (V × D), T.map (·.1) = vs ∧ T.map (·.2) = ds ∧ ∀ t ∈ T, Rep K μ own H t.2 t.1
  | [], vs, h => by
    cases h with
    | nil => exact ⟨[], rfl, rfl, fun t ht => absurd ht List.not_mem_nil⟩
  | d :: ds, vs, h => by
    cases h with
    | cons h1 h2 =>
      obtain ⟨T, e1, e2, e3⟩ := reps_zip h2
      refine ⟨(_, d) :: T, by rw [List.map_cons, e1], by rw [List.map_cons, e2], fun t ht => ?_⟩
      rcases List.mem_cons.mp ht with rfl | ht
      · exact h1
      · exact e3 t ht
theorem zip_reps {K : PySem.W.Frag} {μ : List Addr} {own : Own} {H : Hp} : ∀ {T : List (V × D)}, (∀ t ∈ T, Rep K μ own H t.2 t.1) → Reps K μ own H (T.map (·.2)) (T.map (·.1))
  | [], _ => .nil
  | t :: T, h => .cons (h t List.mem_cons_self) (zip_reps fun u hu => h u (List.mem_cons_of_mem _ hu))
theorem toPys_pyD : ∀ {ds : List D} {ps : List PyData}, D.toPys ds = some ps → ps = ds.map pyD ∧ ∀ d ∈ ds, D.toPy d = some (pyD d)
  | [], ps, e => by
    simp only [D.toPys, Option.some.injEq] at e
    subst e
    exact ⟨rfl, fun d hd => absurd hd List.not_mem_nil⟩
  | d :: ds, ps, e => by
    unfold D.toPys at e
    cases q1 : D.toPy d with
    | none => simp [q1] at e
    | some p =>
      cases q2 : D.toPys ds with
      | none => simp [q1, q2] at e
      | some qs =>
        simp only [q1, q2, Option.some.injEq] at e
        subst e
        obtain ⟨e1, e2⟩ := toPys_pyD q2
        have e0 : pyD d = p := by unfold pyD; rw [q1]; rfl
        refine ⟨by rw [List.map_cons, e0, e1], fun c hc => ?_⟩
        rcases List.mem_cons.mp hc with rfl | hc
        · rw [q1, e0]
        · exact e2 c hc
section
variable {S : Srd} {k1 : Nat}
theorem o_sortedD (hk : k1 ≤ 1) : Op1 S k1 1 (fun x => rSortedD S.K [x]) oSortedD := fun μ own H x d1 d Q fr r1 e q => by
  unfold oSortedD at e
  split at e
  · rename_i ds
    cases q1 : D.toPys ds with
    | none => simp [q1] at e
    | some ps =>
      simp only [q1] at e
      by_cases c : sortOk ps = true
      · rw [if_pos c] at e
        simp only [Option.some.injEq] at e
        subst e
        obtain ⟨a, vs, rfl, s, t, z⟩ := r1.list hk
        obtain ⟨e1, e2⟩ := toPys_pyD q1
        obtain ⟨o1, o2, o3⟩ := sortOk_of c
        obtain ⟨T, t1, t2, t3⟩ := reps_zip t
        subst t1
        subst t2
        have f1 : (T.mergeSort fun a b => leD a.2 b.2).map (·.2) = (T.map (·.2)).mergeSort leD := List.map_mergeSort fun _ _ _ _ => rfl
        have f2 : (T.mergeSort fun a b => leD a.2 b.2).map (fun t => (t.1, pyD t.2)) = (T.map fun t => (t.1, pyD t.2)).mergeSort (PySem.W.dataLe false (·.2)) := List.map_mergeSort fun _ _ _ _ => rfl
        have f3 : ((T.map fun t => (t.1, pyD t.2)).mergeSort (PySem.W.dataLe false (·.2))).map (·.1) = (T.mergeSort fun a b => leD a.2 b.2).map (·.1) := by
          rw [← f2, List.map_map]; rfl
        have m2 : (T.map fun t => (t.1, pyD t.2)).map (·.2) = ps := by rw [e1, List.map_map, List.map_map]; rfl
        refine ⟨a, T.map fun t => (t.1, pyD t.2), rfl, ?_, ?_, ?_, ?_, ?_, ?_⟩
        · rw [List.map_map]; exact SqL.of s
        · intro b hb
          obtain ⟨t, ht, rfl⟩ := List.mem_map.mp hb
          exact (t3 t ht).dp (e2 t.2 (List.mem_map.mpr ⟨t, ht, rfl⟩))
        · rw [m2]; exact o1
        · rw [m2]; exact o2
        · intro b hb
          exact o3 b.2 (by rw [← m2]; exact List.mem_map.mpr ⟨b, hb, rfl⟩)
        · intro p hn
          rw [f3]
          rw [← f1] at q
          refine q _ _ (Grow.upd hn) (RepK.newL (k := 0) upd_same ⟨fr p hn, hn⟩ ?_ (by rw [List.length_map, List.length_mergeSort]; rw [List.length_map] at z; exact z))
          exact zip_reps fun t ht => (t3 t ((List.mergeSort_perm T _).mem_iff.mp ht)).ext (Grow.upd hn).ext (List.prefix_refl _)
      · rw [if_neg c] at e; cases e
  · cases e
end
end M
/-! M11: texts put together. -/
namespace M
open PySem PySem.Spec PyProof.Rows L2
def oFmt (x : D) : Option D := match x with
  | .str y => if y.length ≤ sizeLine then some (.str y) else none
  | .int i => if i.natAbs.log2 < 1920 then some (.str (toString i)) else none
  | _ => none
def oStr (xs : List D) : Option D := match xs with
  | [.str y] => some (.str y)
  | [.int i] => if i.natAbs.log2 < 1920 then some (.str (toString i)) else none
  | _ => none
def eJsG : List ME → Str → ME
  | [], acc => fun _ s => .ok (.str acc) s
  | m :: ms, acc => fun ρ s => (m ρ s).bind fun d s1 => match d with
    | .str y => if (acc ++ y).length ≤ sizeLine then eJsG ms (acc ++ y) ρ s1 else .no
    | _ => .no
def eJs (ms : List ME) : ME := eJsG ms Str.empty
def rFmt : V → Hp → VK → Prop := fun x H1 Q => (∃ y : Str, x = .str y ∧ y.length ≤ sizeLine ∧ Q (.str y) H1) ∨ ∃ i : Int, x = .int i ∧ i.natAbs.log2 < 1920 ∧ Q (.str (toString i)) H1
def rStr : List V → Hp → VK → Prop := fun xs H Q => (∃ i, xs = [.int i] ∧ i.natAbs.log2 < 1920 ∧ Q (.str (toString i)) H) ∨ ∃ a, xs = [.str a] ∧ Q (.str a) H
section
variable {X : Cx}
theorem pe_fmtG {e : Expr} {te : TE} {pos : Pos} (he : PE X e te) : PE X (.FormattedValue e (-1) none pos) (tUn rFmt te) := pe_fmt he
theorem callSortedD (K : PySem.W.Frag) (hu : X.A.units + 65 < cLine) (h : X.K = K := by rfl) : CallR X (.builtin "sorted") (rSortedD K) := h ▸ cr_sortedD hu
theorem cr_strG : CallR X (.type "str") rStr := CallR.or call_str_int SkE.call_str_str
end
section
variable {S : Srd} {Γ : List Nat} {g : Tag} {k : Nat}
theorem o_fmt : Op1 S 0 0 rFmt oFmt := fun μ own H x d1 d Q fr r1 e q => by
  unfold oFmt at e
  split at e
  · rename_i y
    by_cases c : y.length ≤ sizeLine
    · rw [if_pos c] at e
      simp only [Option.some.injEq] at e
      subst e
      cases r1 with
      | str => exact .inl ⟨y, rfl, c, q _ _ (Grow.refl H) (RepK.of (.str _) rfl)⟩
    · rw [if_neg c] at e; cases e
  · rename_i i
    by_cases c : i.natAbs.log2 < 1920
    · rw [if_pos c] at e
      simp only [Option.some.injEq] at e
      subst e
      cases r1 with
      | int => exact .inr ⟨i, rfl, c, q _ _ (Grow.refl H) (RepK.of (.str _) rfl)⟩
    · rw [if_neg c] at e; cases e
  · cases e
theorem o_str : OpN S 0 rStr oStr := fun μ own H xs ds d Q fr r1 e q => by
  unfold oStr at e
  split at e
  · rename_i y
    simp only [Option.some.injEq] at e
    subst e
    cases r1 with
    | cons h1 h2 =>
      cases h2
      cases h1 with
      | str => exact .inr ⟨y, rfl, q _ _ (Grow.refl H) (RepK.of (.str _) rfl)⟩
  · rename_i i
    by_cases c : i.natAbs.log2 < 1920
    · rw [if_pos c] at e
      simp only [Option.some.injEq] at e
      subst e
      cases r1 with
      | cons h1 h2 =>
        cases h2
        cases h1 with
        | int => exact .inl ⟨i, rfl, c, q _ _ (Grow.refl H) (RepK.of (.str _) rfl)⟩
    · rw [if_neg c] at e; cases e
  · cases e
inductive SimJ (S : Srd) (Γ : List Nat) : List TE → List ME → Prop where
  | nil : SimJ S Γ [] []
  | cons {t : TE} {ts : List TE} {m : ME} {ms : List ME} (h : SimE S Γ .fresh 0 t m) (r : SimJ S Γ ts ms) : SimJ S Γ (t :: ts) (m :: ms)
theorem sim_jsG {ts : List TE} {ms : List ME} (h : SimJ S Γ ts ms) : ∀ (acc : Str), SimE S Γ g 0 (fun σ H Q => tJs ts acc σ H fun out H1 => Q (.str out) H1) (eJsG ms acc) := by
  induction h with
  | nil => exact fun acc own μ ρ s σ H Q R hd => hd own μ _ H R .refl (List.prefix_refl _) (.str _)
  | @cons t ts m ms h r ih =>
    intro acc own μ ρ s σ H Q R hd
    refine h own μ ρ s σ H _ R (done_bind (α := D) hd fun d s1 own1 μ1 v H1 R1 e1 m1 r1 hd1 => ?_)
    cases d with
    | str y =>
      simp only at hd1
      by_cases c : (acc ++ y).length ≤ sizeLine
      · rw [if_pos c] at hd1
        cases r1 with
        | str => exact ⟨y, rfl, c, ih (acc ++ y) own1 μ1 ρ s1 σ H1 Q R1 hd1⟩
      · rw [if_neg c] at hd1; exact hd1.elim
    | _ => exact False.elim hd1
theorem sim_js {ts : List TE} {ms : List ME} (h : SimJ S Γ ts ms) : SimE S Γ g 0 (fun σ H Q => tJs ts Str.empty σ H fun out H1 => Q (.str out) H1) (eJs ms) := sim_jsG h Str.empty
end
end M
/-! M12: lists that several defs change: cells of the store. -/
namespace M
open PySem PySem.Spec PyProof.Rows L2
/-- a list display as a cell of its own -/
def eNewL (ms : List ME) : ME := fun ρ s => (evs ms ρ s).bind fun ds s1 => .ok (.ref s1.length) (s1 ++ [.lst ds])
section
variable {S : Srd} {Γ : List Nat} {g : Tag} {k : Nat}
/-- a fresh object as a new cell -/
theorem rel_cell {BB : Bd} {K : PySem.W.Frag} {own1 : Own} {μ1 : List Addr} {ρ : Env} {s1 : Sto} {σ : St} {H1 : Hp} {p : Addr} {o : HO} {c : Cell} (R1 : Rel BB K Γ own1 μ1 ρ s1 σ H1) (hp : H1 p = none)
    (hc : ∀ own2 : Own, CellOk BB K (μ1 ++ [p]) own1 (upd H1 p o) p c) :
    ∃ own2 : Own, Rel BB K Γ own2 (μ1 ++ [p]) ρ (s1 ++ [c]) σ (upd H1 p o) ∧ Ext own1 H1 own2 (upd H1 p o) ∧ (μ1 ++ [p])[s1.length]? = some p := by
  have lp1 := R1.sto.fresh p hp
  let own2 : Own := fun a => if a = p then .cell s1.length else own1 a
  have l1 : ∀ a, a ≠ p → own2 a = own1 a := fun a h => if_neg h
  have ne : ∀ a u, H1 a = some u → a ≠ p := fun a u h z => by subst z; rw [hp] at h; cases h
  have kp : Keeps own1 own2 H1 (upd H1 p o) := ⟨fun a xs h => by rw [upd_ne (ne a _ h)]; exact h, fun a u w h => by rw [upd_ne (ne a _ h)]; exact h, fun a u h l => ⟨by rw [upd_ne (ne a _ h)]; exact h, (l1 a (ne a _ h)).trans l⟩⟩
  have kp2 : Keeps own1 own2 (upd H1 p o) (upd H1 p o) := ⟨fun a xs h => h, fun a u w h => h, fun a u h l => ⟨h, (l1 a (fun z => by subst z; rw [lp1] at l; cases l)).trans l⟩⟩
  have kpm : μ1 <+: μ1 ++ [p] := List.prefix_append _ _
  have hml : μ1.length = s1.length := R1.sto.len
  have hmp : (μ1 ++ [p])[s1.length]? = some p := by rw [← hml, List.getElem?_append_right (Nat.le_refl _)]; simp
  refine ⟨own2, ?_, ?_, hmp⟩
  · refine ⟨R1.len, fun i d hh => ?_, ⟨by rw [List.length_append, List.length_append, hml]; rfl, fun n c' hh => ?_, fun a n hh => ?_, fun a hh => ?_⟩⟩
    · obtain ⟨v, h1, h2⟩ := R1.slot i d hh
      refine ⟨v, h1, h2.keep kp kpm fun a u pp r => ?_⟩
      have hne : a ≠ p := ne a u r
      exact ⟨(l1 a hne).trans pp, by rw [upd_ne hne]; exact r⟩
    · by_cases hn : n < s1.length
      · rw [List.getElem?_append_left hn] at hh
        obtain ⟨a, h1, h2, h3⟩ := R1.sto.cell n c' hh
        have hne : a ≠ p := fun z => by subst z; rw [lp1] at h2; cases h2
        exact ⟨a, pre_get kpm h1, (l1 a hne).trans h2, h3.keep kp kpm fun u r => by rw [upd_ne hne]; exact r⟩
      · have hn2 : n = s1.length := by
          have := (List.getElem?_eq_some_iff.mp hh).1
          rw [List.length_append, List.length_singleton] at this
          omega
        subst hn2
        rw [List.getElem?_append_right (Nat.le_refl _)] at hh
        simp only [Nat.sub_self, List.getElem?_cons_zero, Option.some.injEq] at hh
        subst hh
        exact ⟨p, hmp, if_pos rfl, (hc own2).keep kp2 (List.prefix_refl _) fun u r => r⟩
    · by_cases z : a = p
      · subst z
        have : own2 a = .cell s1.length := if_pos rfl
        rw [this] at hh
        cases hh
        exact hmp
      · rw [l1 a z] at hh
        exact pre_get kpm (R1.sto.lab a n hh)
    · by_cases z : a = p
      · subst z; rw [upd_same] at hh; cases hh
      · rw [upd_ne z] at hh
        rw [l1 a z]
        exact R1.sto.fresh a hh
  · exact ⟨fun a u h _ => by rw [upd_ne (ne a u h)]; exact h, fun a xs h => by rw [upd_ne (ne a _ h)]; exact h, fun a u w h => by rw [upd_ne (ne a _ h)]; exact h, fun a u h => l1 a (ne a u h), fun a u h => ⟨u, by rw [upd_ne (ne a u h)]; exact h⟩⟩
theorem sim_newL {t : TA} {ms : List ME} (h : SimA S Γ t (evs ms)) (hl : ms.length ≤ 1000) : SimE S Γ g 0 (tLst t) (eNewL ms) := by
  refine sim_tag0 (g := .fresh) ?_
  intro own μ ρ s σ H Q R hd
  refine h own μ ρ s σ H _ R (doneA_bind hd fun ds s1 own1 μ1 vs H1 q R1 e1 m1 r1 hd1 => ⟨?_, fun p hp => ?_⟩)
  · rw [← r1.length, evs_length q]; exact Nat.le_trans hl (by decide)
  · obtain ⟨own2, R2, e2, hm⟩ := rel_cell (c := .lst ds) (o := .lst vs) R1 hp fun _ => .lst (by rw [evs_length q]; exact Nat.le_trans hl (by decide)) upd_same (r1.keep (Grow.upd hp).keeps (List.prefix_append _ _))
    exact hd1 own2 (μ1 ++ [p]) (.ref p) _ R2 e2 (List.prefix_append _ _) (Rep.ref hm)
/-- a list cell written anew -/
theorem Rel.cellL {BB : Bd} {K : PySem.W.Frag} {own own0 : Own} {B : Hp} {μ : List Addr} {ρ : Env} {s : Sto} {σ : St} {H : Hp} {n : Nat} {p : Addr} {vs vs' : List V} {ds : List D} (R : Rel BB K Γ own μ ρ s σ H) (e : Ext own0 B own H)
    (h1 : μ[n]? = some p) (h2 : own p = .cell n) (h3 : H p = some (.lst vs)) (z : ds.length ≤ sizeLine) (r : Reps K μ own H ds vs') :
    Rel BB K Γ own μ ρ (s.set n (.lst ds)) σ (upd H p (.lst vs')) ∧ Ext own0 B own (upd H p (.lst vs')) ∧ Keeps own own H (upd H p (.lst vs')) := by
  have kp : Keeps own own H (upd H p (.lst vs')) := by
    have ne : ∀ b u, H b = some u → (∀ ws, u ≠ .lst ws) → b ≠ p := fun b u h n z => by subst z; rw [h3] at h; cases h; exact n _ rfl
    refine ⟨fun b xs h => ?_, fun b c u h => ?_, fun b u h l => ⟨?_, l⟩⟩
    · rw [upd_ne (ne b _ h (by intro _ z; cases z))]; exact h
    · rw [upd_ne (ne b _ h (by intro _ z; cases z))]; exact h
    · rw [upd_ne (fun z => by subst z; rw [h2] at l; cases l)]; exact h
  refine ⟨⟨R.len, fun j d h => ?_, ⟨by rw [List.length_set]; exact R.sto.len, fun m c h => ?_, R.sto.lab, fun b h => ?_⟩⟩, ⟨fun b o h n => ?_, fun b xs h => kp.tup b xs (e.tup b xs h), fun b c u h => kp.frzs b c u (e.frzs b c u h), e.lab, fun b o h => ?_⟩, kp⟩
  · obtain ⟨v, h1, h4⟩ := R.slot j d h
    exact ⟨v, h1, h4.keep kp (List.prefix_refl _) fun b o p r => ⟨p, by rw [upd_ne (fun z => by subst z; rw [h2] at p; cases p)]; exact r⟩⟩
  · by_cases w : m = n
    · subst w
      have hl : m < s.length := by
        have := (List.getElem?_eq_some_iff.mp h).1
        rw [List.length_set] at this
        exact this
      rw [List.getElem?_set_self hl] at h
      cases h
      exact ⟨p, h1, h2, .lst z upd_same (r.keep kp (List.prefix_refl _))⟩
    · rw [List.getElem?_set_ne (Ne.symm w)] at h
      obtain ⟨b, h4, h5, h6⟩ := R.sto.cell m c h
      exact ⟨b, h4, h5, h6.keep kp (List.prefix_refl _) fun o r => by rw [upd_ne (fun y => by subst y; rw [h2] at h5; cases h5; exact w rfl)]; exact r⟩
  · by_cases w : b = p
    · subst w; rw [upd_same] at h; cases h
    · rw [upd_ne w] at h; exact R.sto.fresh b h
  · have hb : b ≠ p := fun w => by
      subst w
      have l := e.lab b o h
      rw [h2] at l
      exact n _ l.symm
    rw [upd_ne hb]; exact e.obj b o h n
  · by_cases w : b = p
    · subst w; exact ⟨_, upd_same⟩
    · rw [upd_ne w]; exact e.there b o h
theorem cell_lst {BB : Bd} {K : PySem.W.Frag} {μ : List Addr} {own : Own} {s : Sto} {H : Hp} {n : Nat} {ds : List D} (so : StoOk BB K μ own s H) (q : s[n]? = some (.lst ds)) :
    ∃ p vs, μ[n]? = some p ∧ own p = .cell n ∧ H p = some (.lst vs) ∧ Reps K μ own H ds vs ∧ ds.length ≤ sizeLine := by
  obtain ⟨a, h1, h2, h3⟩ := so.cell n _ q
  cases h3 with
  | lst z e r => exact ⟨a, _, h1, h2, e, r, z⟩
/-- r.append(e), r a list of the store -/
def sRApp (a m : ME) : MS := fun ρ s => (a ρ s).bind fun d s1 => match d with
  | .ref n => match s1[n]? with
    | some (.lst _) => (m ρ s1).bind fun x s2 => match s2[n]? with
      | some (.lst ds) => if ds.length < sizeLine then .ok (.nx ρ) (s2.set n (.lst (ds ++ [x]))) else .no
      | _ => .no
    | _ => .no
  | _ => .no
theorem sim_rapp {g1 : Tag} {b c : List Nat} {r : Nat} {to t : TE} {a m : ME} (ha : SimE S Γ g1 0 to a) (h : SimE S Γ g 0 t m) : SimS S ⟨Γ, b, c, r⟩ Γ (tDrop (tBM S.K "list" rAppend to (tCons t tNil))) (sRApp a m) := fun own0 B own μ ρ s σ H D en R ex hd => by
  refine ha own μ ρ s σ H _ R (doneS_bind ex hd fun d s1 own1 μ1 v H1 R1 ex1 e1 m1 r1 hd1 => ?_)
  cases d with
  | ref n =>
    simp only at hd1
    split at hd1
    · rename_i ds0 q0
      obtain ⟨p, vs, h1, h2, h3, h4, h5⟩ := cell_lst R1.sto q0
      cases r1 with
      | ref hmm =>
        rw [h1] at hmm
        cases hmm
        refine .inl ⟨rfl, vs, SqL.of h3⟩ |> fun ty => ⟨ty, h own1 μ1 ρ s1 σ H1 _ R1 (doneS_bind ex1 hd1 fun x s2 own2 μ2 u H2 R2 ex2 e2 m2 ru hd2 => ?_)⟩
        split at hd2
        · rename_i ds q5
          split at hd2
          · rename_i hlt
            obtain ⟨p2, vs2, j1, j2, j3, j4, j5⟩ := cell_lst R2.sto q5
            have hp : p2 = p := by
              have := pre_get m2 h1
              rw [j1] at this
              exact Option.some.inj this
            subst hp
            obtain ⟨R4, ex4, kp4⟩ := R2.cellL ex2 j1 j2 j3 (ds := ds ++ [x]) (vs' := vs2 ++ [u]) (by rw [List.length_append, List.length_singleton]; omega) (j4.append (Reps.one ru))
            exact ⟨p2, vs2, u, rfl, rfl, j3, by rw [← j4.length]; exact hlt, hd2 own2 μ2 σ _ R4 ex4 kp4 (List.prefix_refl _)⟩
          · exact hd2.elim
        · exact hd2.elim
    · exact hd1.elim
  | _ => exact False.elim hd1
/-- what is read of a list of the store -/
def rdL (f : D → Option D) (d : D) (s : Sto) : Res D := match d with
  | .ref n => match s[n]? with
    | some (.lst ds) => ofO (f (.lst ds)) s
    | _ => .no
  | _ => .no
def eRd (f : D → Option D) (a : ME) : ME := fun ρ s => (a ρ s).bind fun d s1 => rdL f d s1
def eRd2 (f : D → D → Option D) (a b : ME) : ME := fun ρ s => (a ρ s).bind fun d s1 => (b ρ s1).bind fun e s2 => rdL (f d) e s2
theorem cell_held {BB : Bd} {K : PySem.W.Frag} {μ : List Addr} {own : Own} {s : Sto} {H : Hp} {n : Nat} {ds : List D} {v : V} (so : StoOk BB K μ own s H) (q : s[n]? = some (.lst ds)) (r : Rep K μ own H (.ref n) v) :
    ∃ own' : Own, (∀ a, H a = none → own' a = .tmp) ∧ Keeps own own' H H ∧ (∀ H', Grow H H' → Keeps own' own H' H') ∧ (∀ a, H a = none → own' a = own a) ∧ RepK K μ own' H 1 (fun a => NonCell own' a) (.lst ds) v := by
  obtain ⟨p, vs, h1, h2, h3, h4, h5⟩ := cell_lst so q
  cases r with
  | ref hmm =>
    rw [h1] at hmm
    cases hmm
    let own' : Own := fun a => if a = p then .tmp else own a
    have l1 : ∀ a, a ≠ p → own' a = own a := fun a h => if_neg h
    have lp : own' p = .tmp := if_pos rfl
    have ne : ∀ a, H a = none → a ≠ p := fun a h z => by subst z; rw [h3] at h; cases h
    have kp : Keeps own own' H H := ⟨fun _ _ h => h, fun _ _ _ h => h, fun a o h l => ⟨h, (l1 a (fun z => by subst z; rw [h2] at l; cases l)).trans l⟩⟩
    refine ⟨own', fun a h => (l1 a (ne a h)).trans (so.fresh a h), kp, fun H' _ => ⟨fun _ _ h => h, fun _ _ _ h => h, fun a o h l => ⟨h, (l1 a (fun z => by subst z; rw [lp] at l; cases l)).symm.trans l⟩⟩, fun a h => l1 a (ne a h), ?_⟩
    have nc : NonCell own' p := fun n z => by rw [lp] at z; cases z
    exact .inr ⟨p, vs, ds, rfl, rfl, nc, h3, h5, (h4.keep kp (List.prefix_refl _)).all2, fun z => absurd rfl z⟩
theorem sim_rdB {g1 : Tag} {r : List V → Hp → VK → Prop} {f : D → Option D} {t : TE} {m : ME} (ho : Op1 S 1 k (fun x => r [x]) f) (h : SimE S Γ g1 0 t m) : SimE S Γ .fresh k (tCB r (tCons t tNil)) (eRd f m) := by
  intro own μ ρ s σ H Q R hd
  refine h own μ ρ s σ H _ R (done_bind (α := D) hd fun d s1 own1 μ1 v H1 R1 e1 m1 r1 hd1 => ?_)
  unfold rdL at hd1
  cases d with
  | ref n =>
    simp only at hd1
    split at hd1
    · rename_i ds q
      cases q2 : f (.lst ds) with
      | none => rw [q2] at hd1; exact hd1.elim
      | some z =>
        rw [q2] at hd1
        obtain ⟨own', f1, f2, f3, f4, f5⟩ := cell_held R1.sto q r1
        exact ho μ1 own' H1 v (.lst ds) z Q f1 f5 q2 fun x H3 gr rv => hd1 own1 μ1 x H3 (R1.grow gr) gr.ext (List.prefix_refl _) (rv.keep (f3 H3 gr) (List.prefix_refl _) fun a o p q => ⟨⟨(f4 a p.2).symm.trans p.1, p.2⟩, q⟩)
    · exact hd1.elim
  | _ => exact False.elim hd1
theorem sim_rd2 {g1 g2 : Tag} {r : R2} {f : D → D → Option D} {ta tb : TE} {ma mb : ME} (ho : Op2 S 0 1 k r f) (ha : SimE S Γ g1 0 ta ma) (hb : SimE S Γ g2 0 tb mb) : SimE S Γ .fresh k (tOp r ta tb) (eRd2 f ma mb) := by
  intro own μ ρ s σ H Q R hd
  refine ha own μ ρ s σ H _ R (done_bind (α := D) hd fun d s1 own1 μ1 v H1 R1 e1 m1 r1 hd1 => ?_)
  refine hb own1 μ1 ρ s1 σ H1 _ R1 (done_bind (α := D) hd1 fun e s2 own2 μ2 w H2 R2 e2 m2 r2 hd2 => ?_)
  unfold rdL at hd2
  cases e with
  | ref n =>
    simp only at hd2
    split at hd2
    · rename_i ds q
      cases q2 : f d (.lst ds) with
      | none => rw [q2] at hd2; exact hd2.elim
      | some z =>
        rw [q2] at hd2
        obtain ⟨own', f1, f2, f3, f4, f5⟩ := cell_held R2.sto q r2
        have r1' : Rep S.K μ2 own' H2 d v := (Rep.ext r1 e2 m2).keep f2 (List.prefix_refl _)
        exact ho μ2 own' H2 v w d (.lst ds) z Q f1 r1' f5 q2 fun x H3 gr rv => hd2 own2 μ2 x H3 (R2.grow gr) gr.ext (List.prefix_refl _) (rv.keep (f3 H3 gr) (List.prefix_refl _) fun a o p q => ⟨⟨(f4 a p.2).symm.trans p.1, p.2⟩, q⟩)
    · exact hd2.elim
  | _ => exact False.elim hd2
end
end M
/-! M13: lists repeated. -/
namespace M
open PySem PySem.Spec PyProof.Rows L2
def oRep (x y : D) : Option D := match x, y with
  | .lst ds, .int k => if -(2 ^ 63) ≤ k ∧ k < 2 ^ 63 ∧ ds.length * k.toNat ≤ sizeLine then some (.lst (List.replicate k.toNat ds).flatten) else none
  | _, _ => none
theorem Reps.rep {K : PySem.W.Frag} {μ : List Addr} {own : Own} {H : Hp} {ds : List D} {vs : List V} (h : Reps K μ own H ds vs) : ∀ n : Nat, Reps K μ own H (List.replicate n ds).flatten (List.replicate n vs).flatten
  | 0 => .nil
  | n + 1 => by
    rw [List.replicate_succ, List.replicate_succ, List.flatten_cons, List.flatten_cons]
    exact h.append (Reps.rep h n)
section
variable {S : Srd} {k1 : Nat}
theorem o_rep (hk : k1 ≤ 1) : Op2 S k1 0 1 rRep oRep := fun μ own H x y d1 d2 d Q fr r1 r2 e q => by
  unfold oRep at e
  split at e
  · rename_i ds k
    by_cases c : -(2 ^ 63) ≤ k ∧ k < 2 ^ 63 ∧ ds.length * k.toNat ≤ sizeLine
    · rw [if_pos c] at e
      simp only [Option.some.injEq] at e
      subst e
      obtain ⟨a, vs, rfl, s, t, z⟩ := r1.list hk
      cases r2 with
      | int =>
        refine ⟨a, k, vs, rfl, rfl, s, c.1, c.2.1, by rw [← t.length]; exact c.2.2, fun p hn => ?_⟩
        refine q _ _ (Grow.upd hn) (RepK.newL (k := 0) upd_same ⟨fr p hn, hn⟩ ((t.rep k.toNat).ext (Grow.upd hn).ext (List.prefix_refl _)) ?_)
        rw [List.length_flatten, List.map_replicate, List.sum_replicate_nat, Nat.mul_comm]
        exact c.2.2
    · rw [if_neg c] at e; cases e
  · cases e
end
end M
/-! M14: items of an own list stored. -/
namespace M
open PySem PySem.Spec PyProof.Rows L2
section
variable {X : Cx}
theorem get_list (K : PySem.W.Frag) (h : X.K = K := by rfl) : PGet X (rIxL K) := by
  subst h
  intro pins s σ H x y v u Q I rx ry h
  obtain ⟨p, xs, i, z, rfl, rfl, hq, he, q⟩ := h
  cases rx
  obtain ⟨t, rfl⟩ := ry
  obtain ⟨its, r, pl, hz⟩ := I.list hq
  obtain ⟨j, h1, h2, h3, h4, h5⟩ := atI_get he
  obtain ⟨w, ew, rw'⟩ := r.get h2
  have hl := r.length
  have hn := line63
  have fin : EP X pins σ Q w s := ⟨z, H, I, rw', q⟩
  by_cases h0 : 0 ≤ i
  · have hj : i.toNat = j := by
      rw [seqIndex_of h0 h5] at h1
      exact Option.some.inj h1
    exact wpAny_getItem_list pl.isList h0 (by omega) (by rw [hj]; simpa using ew) fin
  · have hj : (i + (its.toArray.size : Int)).toNat = j := by
      rw [seqIndex_neg (by omega) h4] at h1
      rw [List.size_toArray, ← hl]
      exact Option.some.inj h1
    exact wpAny_getItem_list_neg pl.isList (by omega) (by rw [List.size_toArray] <;> omega) (by omega) (by rw [hj]; simpa using ew) fin
end
/-- the list at slot i, its item there by an operator -/
def sIAug (i : Nat) (a : ME) (f : D → D → Option D) (m : ME) : MS := fun ρ s => match ρ[i]? with
  | some (some (.lst ds)) => (a ρ s).bind fun k s1 => match k with
    | .int k => match atI ds k, ixN ds.length k with
      | some x, some j => (m ρ s1).bind fun y s2 => match f x y with
        | some z => .ok (.nx (ρ.set i (some (.lst (ds.set j z))))) s2
        | none => .no
      | _, _ => .no
    | _ => .no
  | _ => .no
/-- the list at slot i, its item there anew -/
def sISet (i : Nat) (a : ME) (m : ME) : MS := fun ρ s => match ρ[i]? with
  | some (some (.lst ds)) => (m ρ s).bind fun z s1 => (a ρ s1).bind fun k s2 => match k with
    | .int k => match ixN ds.length k with
      | some j => .ok (.nx (ρ.set i (some (.lst (ds.set j z))))) s2
      | none => .no
    | _ => .no
  | _ => .no
section
variable {S : Srd} {Γ : List Nat} {g : Tag} {k : Nat} {G : Gam}
theorem sim_iset {b c : List Nat} {r i : Nat} {t ti : TE} {m a : ME} {g1 : Tag} (h : SimE S Γ g 0 t m) (ha : SimE S Γ g1 0 ti a) (hk : Γ.getD i 0 = 1) (hi : i < Γ.length) : SimS S ⟨Γ, b, c, r⟩ Γ (tAsg t (gSub (tVar i) ti rSetL)) (sISet i a m) := fun own0 B own μ ρ s σ H D en R ex hd => by
  unfold sISet at hd
  split at hd
  · rename_i ds e
    obtain ⟨v, h1, h2⟩ := R.slot i _ e
    rw [hk] at h2
    rcases h2 with ⟨n, _⟩ | ⟨p, vs, es, e1, e2, la, ha0, z, r2, _⟩
    · cases n
    cases e2
    subst e1
    refine h own μ ρ s σ H _ R (doneS_bind ex hd fun d s1 own1 μ1 u H1 R1 ex1 e1 m1 ru hd1 => ⟨.ref p, h1, ?_⟩)
    refine ha own1 μ1 ρ s1 σ H1 _ R1 (doneS_bind ex1 hd1 fun d2 s2 own2 μ2 u2 H2 R2 ex2 e2 m2 ru2 hd2 => ?_)
    split at hd2
    · rename_i kk
      cases ru2
      split at hd2
      · rename_i j hj
        have e12 := e1.trans e2
        have ha1 : H2 p = some (.lst vs) := e12.obj p _ ha0 (fun n => by rw [la]; intro z; cases z)
        have la1 : own2 p = .slot i := (e12.lab p _ ha0).trans la
        have rr : Reps S.K μ2 own2 H2 (ds.set j d) (vs.set j u) := ((All2.reps r2).keep e12.keeps (m1.trans m2)).set (ru.ext e2 m2) j
        obtain ⟨R3, ex3, kp3⟩ := R2.wrote en ex2 hi hk la1 ha1 h1 rr (by rw [List.length_set]; exact z)
        exact ⟨p, vs, kk, j, rfl, rfl, ha1, by rw [← (All2.reps r2).length]; exact hj, hd2 own2 μ2 σ _ R3 ex3 kp3 (List.prefix_refl _)⟩
      · exact hd2.elim
    · exact hd2.elim
  · exact hd.elim
theorem sim_iaug {b c : List Nat} {r i k2 : Nat} {t ti : TE} {m a : ME} {g1 : Tag} {rd : TIp} {f : D → D → Option D} (ho : Op2 S 0 k2 0 rd f) (hconst : ∀ μ own H x y d1 d2 d Q, Rep S.K μ own H d1 x → RepK S.K μ own H k2 (fun a => NonCell own a) d2 y → f d1 d2 = some d → (∀ v, Rep S.K μ own H d v → Q v H) → rd x y H Q)
    (h : SimE S Γ g k2 t m) (ha : SimE S Γ g1 0 ti a) (hk : Γ.getD i 0 = 1) (hi : i < Γ.length) : SimS S ⟨Γ, b, c, r⟩ Γ (tAugS (tVar i) ti t (rIxL S.K) rd rSetL) (sIAug i a f m) := fun own0 B own μ ρ s σ H D en R ex hd => by
  unfold sIAug at hd
  split at hd
  · rename_i ds e
    obtain ⟨v, h1, h2⟩ := R.slot i _ e
    rw [hk] at h2
    rcases h2 with ⟨n, _⟩ | ⟨p, vs, es, e1, e2, la, ha0, z, r2, _⟩
    · cases n
    cases e2
    subst e1
    refine ⟨.ref p, h1, ?_⟩
    refine ha own μ ρ s σ H _ R (doneS_bind ex hd fun d s1 own1 μ1 u H1 R1 ex1 e1 m1 ru hd1 => ?_)
    split at hd1
    · rename_i kk
      cases ru
      split at hd1
      · rename_i x j hx hj
        have ha1 : H1 p = some (.lst vs) := e1.obj p _ ha0 (fun n => by rw [la]; intro z; cases z)
        have la1 : own1 p = .slot i := (e1.lab p _ ha0).trans la
        have rr : Reps S.K μ1 own1 H1 ds vs := (All2.reps r2).keep e1.keeps m1
        obtain ⟨w, q1, q2⟩ := rr.at hx
        refine ⟨p, vs, kk, w, rfl, rfl, SqL.of ha1, q1, ?_⟩
        refine h own1 μ1 ρ s1 σ H1 _ R1 (doneS_bind ex1 hd1 fun d2 s2 own2 μ2 u2 H2 R2 ex2 e2 m2 ru2 hd2 => ?_)
        split at hd2
        · rename_i zz hz
          have ha2 : H2 p = some (.lst vs) := e2.obj p _ ha1 (fun n => by rw [la1]; intro z; cases z)
          have la2 : own2 p = .slot i := (e2.lab p _ ha1).trans la1
          refine hconst μ2 own2 H2 w u2 x d2 zz _ (q2.ext e2 m2) (ru2.imp fun a p => Tag.P_nc p) hz fun vv rv => ?_
          have rr2 : Reps S.K μ2 own2 H2 (ds.set j zz) (vs.set j vv) := (rr.ext e2 m2).set rv j
          obtain ⟨R3, ex3, kp3⟩ := R2.wrote en ex2 hi hk la2 ha2 h1 rr2 (by rw [List.length_set]; exact z)
          exact ⟨p, vs, kk, j, rfl, rfl, ha2, by rw [← (All2.reps r2).length]; exact hj, hd2 own2 μ2 σ _ R3 ex3 kp3 (List.prefix_refl _)⟩
        · exact hd2.elim
      · exact hd1.elim
    · exact hd1.elim
  · exact hd.elim
theorem ipAdd_const {k2 : Nat} : ∀ μ own H x y d1 d2 d Q, Rep S.K μ own H d1 x → RepK S.K μ own H k2 (fun a => NonCell own a) d2 y → oAddI d1 d2 = some d → (∀ v, Rep S.K μ own H d v → Q v H) → (ipI fun i j => i + j) x y H Q := fun μ own H x y d1 d2 d Q r1 r2 e q => by
  obtain ⟨i, j, e1, e2, _, e3⟩ := oI_some e
  subst e1 e2 e3
  have q2 := r2.rep rfl
  cases r1; cases q2
  exact ⟨i, j, rfl, rfl, q _ (.int _)⟩
theorem ipSub_const {k2 : Nat} : ∀ μ own H x y d1 d2 d Q, Rep S.K μ own H d1 x → RepK S.K μ own H k2 (fun a => NonCell own a) d2 y → oSubI d1 d2 = some d → (∀ v, Rep S.K μ own H d v → Q v H) → (ipI fun i j => i - j) x y H Q := fun μ own H x y d1 d2 d Q r1 r2 e q => by
  obtain ⟨i, j, e1, e2, _, e3⟩ := oI_some e
  subst e1 e2 e3
  have q2 := r2.rep rfl
  cases r1; cases q2
  exact ⟨i, j, rfl, rfl, q _ (.int _)⟩
end
end M
/-! M20: sorted(set(x)). -/
namespace M
open PySem PySem.Spec PyProof.Rows L2
section
variable {P : Program} {w : World} {A : Around} {E : Value → Shared → Prop} {s : Shared}
abbrev setObj0 (w : World) : Obj := { cls := .type "set", dict := none, data := .set #[] 0 (.fresh 0 0 (!w.params.followText "set-order")) }
set_option maxRecDepth 100000 in
set_option maxHeartbeats 3200000 in
/-- set(xs), xs a list of ints -/
theorem call_set_lstI {b : Addr} {its : Array Value} (ks : List Int) {Q : Value → Shared → Prop} (hA : A.handled = none) (lb : s.heap.IsList b its) (ik : IntsAre its.toList ks) (few : ks.length + 1 < scanBound)
    (fin : ∀ (h2 : Heap) (tk m : Nat), SetR w h2 s.heap.objs.size (fun j => decide (j ∈ ks)) m → m ≤ ks.length → (∀ c u, s.heap.get? c = some u → h2.get? c = some u) → Q (.ref s.heap.objs.size) { s with heap := h2, toks := tk }) :
    wpAny (model P w) A (PySem.call (.type "set") [.ref b]) Q E s := by
  have isz : its.size = ks.length := by rw [← Array.length_toList]; exact IntsAre.length ik
  obtain ⟨cc, tt, mro⟩ := F.called_set.mro
  have made := F.called_set.made
  have subS := F.called_set.sub
  refine wpAny_call (codeAny_of_tree ?_)
  show wpAny _ _ (PySem.callAny (.type "set") _) _ _ _
  refine wpAny_pure ⟨Code.quiet_builtin _ (by decide +kernel), codeAny_builtin F.entry_type_call ?_⟩
  rw [Around.under_plain (weight_type_call_type "set" [.ref b] []) rfl]
  have t1 := F.called_set.notType
  have t2 := F.called_set.canCreate
  have t3 := F.typeCall_set_1 (.ref b)
  repeat (any_goals (first | assumption | wp_step))
  refine codeAny_mono (code_set_led1 (.ref b) (E := E) (Q₁ := fun v s₁ => v = .ref s.heap.objs.size ∧ s₁ = { s with heap := s.heap.push (setObj0 w) }) ⟨rfl, rfl⟩) fun r s₁ hr => ?_
  cases r with
  | error e => exact hr
  | ok fl =>
    cases fl with
    | ret v =>
      obtain ⟨rfl, rfl⟩ := hr
      have gS : (s.heap.push (setObj0 w)).get? s.heap.objs.size = some (setObj0 w) := Heap.get?_push_size _ rfl
      have tS : Shared.TypeIs { s with heap := s.heap.push (setObj0 w) } (.ref s.heap.objs.size) "set" := ⟨_, gS, rfl⟩
      have u1 := F.called_set.init.lookup
      have u2 := F.called_set.init.bind (.ref s.heap.objs.size)
      repeat (any_goals (first | assumption | wp_step))
      refine codeAny_mono (codeAny_call_builtin (R := wants (fun r s₂ => r = .none ∧ ∃ h2 tk m, s₂ = { s with heap := h2, toks := tk } ∧ SetR w h2 s.heap.objs.size (fun j => decide (j ∈ ks)) m ∧ m ≤ ks.length ∧
          (∀ c u, s.heap.get? c = some u → h2.get? c = some u)) E) F.called_set.init.plain F.entry_set_init (check_set_init_1 tS ?_)) fun r₂ s₂ hr₂ => ?_
      · obtain ⟨ob, hob, hcb, nb, hdb⟩ := lb
        obtain ⟨k1, k2, k3, k4⟩ := ob
        simp only at hcb hdb
        subst hcb; subst hdb
        have gb : (s.heap.push (setObj0 w)).get? b = some { cls := .type "list", dict := k2, data := .seq its nb, slots := k4 } := Heap.get?_push_of_some _ hob
        have z1 := F.sub_list_set
        have z2 := F.sub_list_frozenset
        have z3 : (Value.type "list" == Value.type "dict") = false := by decide
        have lb1 : (s.heap.push (setObj0 w)).IsList b its := ⟨_, gb, rfl, nb, rfl⟩
        unfold Builtin.«set.__init__» noKeywords Builtin.Frozenset.updateFrom
        generalize hPI : pyIter = PI
        wp_walk
        subst hPI
        refine wpAny_pyIter_list lb1 ?_
        refine wpAny_bind (wpAny_runValue ?_)
        have lbs : b < s.heap.objs.size := Heap.lt_size hob
        have hA3 : A.in1.in1.in1.handled = none := by simp [hA]
        have neI : b ≠ (s.heap.push (setObj0 w)).objs.size := by rw [Heap.size_push]; exact Nat.ne_of_lt (Nat.lt_succ_of_lt lbs)
        have nS : s.heap.objs.size ∉ [(s.heap.push (setObj0 w)).objs.size, b] := by
          rw [Heap.size_push]
          intro hm
          rcases List.mem_cons.mp hm with e | e
          · exact absurd e (Nat.ne_of_lt (Nat.lt_succ_self _))
          · exact absurd (List.mem_singleton.mp e) (Nat.ne_of_gt lbs)
        have val : ∀ (i : Nat) (v : Value), its[i]? = some v → ∃ k t, ks[i]? = some k ∧ v = .int k t := fun i v hv => by
          have hi : i < ks.length := by rw [← isz]; exact (Array.getElem?_eq_some_iff.mp hv).1
          obtain ⟨t, e⟩ := PyProof.Rows.IntsAre.int_at ik i v (by rw [Array.getElem?_toList]; exact hv)
          refine ⟨ks[i], t, List.getElem?_eq_getElem hi, ?_⟩
          rw [e, List.getD_eq_getElem?_getD, List.getElem?_eq_getElem hi] <;> rfl
        refine set_update_ints ((Walks.list hA3 _ b neI its).toS) s.heap.objs.size nS ks isz few val (its.size - 0) 0 _ (by omega) (Nat.zero_le _) ⟨⟨_, Heap.get?_push_size _ rfl, rfl, rfl⟩, (lb1.push _)⟩ ?hB ?hE
        case hB =>
          exact ⟨0, Nat.le_refl 0, setR_new_at (Heap.get?_push_of_some _ gS)⟩
        case hE =>
          intro s' m hm hm' hS'
          obtain ⟨h2, g2, d2, tk2, os2⟩ := s'
          obtain rfl : g2 = s.gens := hm.gens
          obtain rfl : d2 = s.drawn := hm.drawn
          obtain rfl : os2 = s.os := hm.os
          show wpAny _ _ _ _ _ _
          refine wpAny_pure ?_
          show wpAny _ _ (ret Value.none) _ _ _
          rw [isz] at hm'
          refine wpAny_pure ⟨rfl, h2, tk2, m, rfl, hS', hm', fun c u e => ?_⟩
          have c0 : c < s.heap.objs.size := Heap.lt_size e
          refine hm.heap c u (fun z => ?_) (Heap.get?_push_of_some _ (Heap.get?_push_of_some _ e))
          rcases List.mem_cons.mp z with z | z
          · exact Nat.ne_of_lt c0 z
          · have z := List.mem_singleton.mp z
            rw [Heap.size_push] at z
            exact Nat.ne_of_lt (Nat.lt_succ_of_lt c0) z
      · cases r₂ with
        | error e => exact hr₂
        | ok fl₂ =>
          cases fl₂ with
          | ret r =>
            obtain ⟨rfl, h2, tk, m, rfl, hS', hm', hk'⟩ := hr₂
            repeat (any_goals (first | assumption | wp_step))
            exact fin _ _ _ hS' hm' hk'
          | _ => exact hr₂.elim
    | _ => exact hr.elim
end
end M
/-! M21: sorted(set(x)), the rules and the plain side. -/
namespace M
open PySem PySem.Spec PyProof.Rows L2
section
variable {X : Cx} {pins : List (Addr × Obj)} {σ : St} {H : Hp} {s : Shared} {a : Addr}
/-- sorted(x), x of any kind that can be collected, in an order that only then is known -/
theorem sorted_colG {x : Value} {Good : List (V × PyData) → Prop} {Q : VK} (hu : X.A.units + 65 < cLine) (I : Inv X pins σ H s)
    (hc : ∀ (R : List Value → Shared → Prop) (E : Value → Shared → Prop), (∀ (s1 : Shared) (us : List Value) (bs : List (V × PyData)), (∀ b o, s.heap.get? b = some o → s1.heap.get? b = some o) → s1.gens = s.gens → s1.os = s.os → Vals (bs.map (·.1)) us → Good bs → R us s1) →
      wpAny (model X.prog X.w) X.A.in1 (collect x) R E s)
    (hd : ∀ bs, Good bs → (∀ b ∈ bs, Dp X.K H b.1 b.2) ∧ PySem.W.AllAlike (bs.map (·.2)) ∧ PySem.W.Sortable (bs.map (·.2)) ∧ (∀ b ∈ bs, b.2.depth ≤ 60) ∧ bs.length ≤ sizeLine)
    (q : ∀ bs, Good bs → ∀ p : Addr, H p = none → Q (.ref p) (upd H p (.lst ((bs.mergeSort (PySem.W.dataLe false (·.2))).map (·.1))))) : wpAny (model X.prog X.w) X.A (PySem.call (.builtin "sorted") [x]) (EP X pins σ Q) X.xe s := by
  refine Calls.call_function_entry PyProof.Rows.kind_sorted PyProof.Rows.plain_sorted PyProof.Rows.entry_sorted (PyProof.Rows.args_sorted1 _) ?_
  unfold Builtin.«sorted»
  refine wpAny_bind (m := checkCount "sorted" 1 1 _) (wpAny_pure (wpAny_bind (hc _ _ fun s1 us bs k1 g1 o1 rv good => ?_)))
  obtain ⟨dps, hal, hk, hdp, hz⟩ := hd bs good
  have I1 : Inv X pins σ H s1 := I.call' (ch := []) o1 (Un.kept k1) (I.hok.kept k1) (by rw [g1]; exact I.bare) (fun _ z => nomatch z)
  have lu : us.length = bs.length := by rw [← rv.length, List.length_map]
  refine wpAny_bind (wpAny_newList ?_ (by rw [lu]; exact hz))
  have gL : (s1.heap.push (seqObj "list" us.toArray 0)).get? s1.heap.objs.size = some (seqObj "list" us.toArray 0) := Heap.get?_push_size _ rfl
  obtain ⟨w1, w2⟩ := each_of I1 rv dps
  have keep : ∀ b o, s1.heap.get? b = some o → (PySem.W.sortingHeap (s1.heap.push (seqObj "list" us.toArray 0)) s1.heap.objs.size us).get? b = some o := fun b o e =>
    PySem.W.sortingHeap_old (Nat.ne_of_lt (Heap.lt_size e)) (Heap.get?_push_of_some _ e)
  have w3 : PySem.W.EachIs (fun v (b : V × PyData) => ∃ as, Reads (PySem.W.sortingHeap (s1.heap.push (seqObj "list" us.toArray 0)) s1.heap.objs.size us) v b.2 as) us bs := w2.mono fun _ _ ⟨as, r⟩ => ⟨as, PyProof.Rows.Reads.keeps keep r⟩
  show wpAny _ _ _ _ _ { s1 with heap := s1.heap.push (seqObj "list" us.toArray 0) }
  refine wpAny_bind (wpAny_holding (wpAny_call_entry PyProof.Rows.slot_list_sort ⟨_, gL, rfl⟩ PyProof.Rows.entry_list_sort
    (PySem.W.list_sort_vals (κ := PySem.W.dataKind (PySem.W.sortingHeap (s1.heap.push (seqObj "list" us.toArray 0)) s1.heap.objs.size us) (bs.map (·.2))) (s := { s1 with heap := s1.heap.push (seqObj "list" us.toArray 0) }) gL
      (PySem.W.SortsAt.data (s := { s1 with heap := PySem.W.sortingHeap (s1.heap.push (seqObj "list" us.toArray 0)) s1.heap.objs.size us }) (PySem.W.each_map (R := fun v d => ∃ as, Reads (PySem.W.sortingHeap (s1.heap.push (seqObj "list" us.toArray 0)) s1.heap.objs.size us) v d as) (fun b : V × PyData => b.2) w3) hal hk
        (PySem.W.bound_map (enc := fun b : V × PyData => b.2) fun b hb => by have := hdp b hb; show X.A.units + 1 + 1 + _ < _; omega)) (by rw [lu]; exact hz) ⟨.none, rfl, ?_⟩) (PyProof.Rows.args_list_sort _)))
  have ev := PySem.W.sortVals_data false w1 w3 hal
  obtain ⟨ep, he⟩ := PyProof.Rows.sortedHeap_at (vs := us) (out := (PySem.W.sortVals (PySem.W.dataKind (PySem.W.sortingHeap (s1.heap.push (seqObj "list" us.toArray 0)) s1.heap.objs.size us) (bs.map (·.2))) false us us).toArray) gL
  refine wpAny_pure ⟨_, rfl, .ref s1.heap.objs.size, upd H s1.heap.objs.size (.lst ((bs.mergeSort (PySem.W.dataLe false (·.2))).map (·.1))), I1.laid (t' := s1.toks) (fun b u e => ?_) (Nat.le_refl _) ⟨by rw [List.length_map, List.length_mergeSort]; exact hz, _, ep, each_back ev, he⟩, rfl, q bs good _ (I1.hok.fresh (Nat.le_refl _))⟩
  have hb : b < s1.heap.objs.size := Heap.lt_size e
  rw [PyProof.Rows.sortedHeap_old (Nat.ne_of_lt hb) (by rw [size_push']; exact Nat.lt_succ_of_lt hb)]
  exact Heap.get?_push_of_some _ e
/-- a row of ints as data -/
def iV (k : Int) : V × PyData := (.int k, .int k)
theorem ints_le (j k : Int) : PySem.W.dataLe false (fun b : V × PyData => b.2) (iV j) (iV k) = decide (j ≤ k) := by
  show (!PyProof.Rows.lexLt PyProof.Rows.itemOrd [Sum.inl k] [Sum.inl j]) = _
  unfold PyProof.Rows.lexLt
  show (!(PyProof.Rows.itemLt (.inl k) (.inl j) || _)) = _
  by_cases h : k < j
  · have h2 : ¬ j ≤ k := by omega
    simp [PyProof.Rows.itemLt, h, h2]
  · have h2 : j ≤ k := by omega
    simp [PyProof.Rows.itemLt, PyProof.Rows.lexLt, h, h2]
/-- set(xs), xs a list of ints -/
def rSetI (w : World) (K : PySem.W.Frag) : List V → Hp → VK → Prop := fun xs H Q => ∃ (l : Addr) (ks : List Int), xs = [V.ref l] ∧ SqL K H l (ks.map V.int) ∧ ks.length + 1 < scanBound ∧
  ∀ (p : Addr) (m : Nat), H p = none → Q (.ref p) (upd H p (SetO w p (fun j => decide (j ∈ ks)) m))
theorem cr_setI (hc : X.calm = true) : CallR X (.type "set") (rSetI X.w X.K) := by
  intro pins s σ H xs us Q I r h
  obtain ⟨l, ks, rfl, hl, hf, q⟩ := h
  rw [Vals.ref1 r]
  obtain ⟨its, rv, pl, hz⟩ := I.list hl
  refine call_set_lstI (P := X.prog) (w := X.w) ks (I.ok.hd hc) pl.isList (by simpa using ints_of_vals rv) hf fun h2 tk m R le k => ?_
  exact ⟨.ref s.heap.objs.size, upd H s.heap.objs.size (SetO X.w s.heap.objs.size (fun j => decide (j ∈ ks)) m), I.laid (t' := tk) k (Nat.le_refl _) (setO_new R), rfl, q _ m (I.hok.fresh (Nat.le_refl _))⟩
/-- sorted(set), of ints -/
def rSortSI (w : World) : List V → Hp → VK → Prop := fun vs H Q => ∃ (a : Addr) (S : Int → Bool) (n : Nat), vs = [V.ref a] ∧ H a = some (SetO w a S n) ∧
  ∀ (ns : List Int) (p : Addr), ns.Pairwise (· < ·) → (∀ k : Int, k ∈ ns ↔ S k = true) → H p = none → Q (.ref p) (upd H p (.lst (ns.map V.int)))
theorem cr_sortSI (hu : X.A.units + 65 < cLine) (hc : X.calm = true) : CallR X (.builtin "sorted") (rSortSI X.w) := by
  intro pins s σ H vs us Q I r h
  obtain ⟨a, S, n, rfl, ha, q⟩ := h
  obtain ⟨o, es, ep, t, ho, hex, hd, g, nd, hm, hb, hf, hn, hr, hl⟩ := setO_get I ha
  rw [Vals.ref1 r]
  have hh : X.A.in1.handled = none := by simp [I.ok.hd hc]
  refine sorted_colG (Good := fun bs => ∃ ks : List Int, bs = ks.map iV ∧ ks.Perm (es.toList.map L2.keyOf)) hu I (fun R E fin => ?_) (fun bs good => ?_) fun bs good p hp => ?_
  · refine collect_set (A := X.A.in1) hh ⟨o, ho, hex.1, hd⟩ hf hb hr hl fun s1 out k1 z1 g1 o1 pm => ?_
    have hi : IntsAre out (out.map Builtin.Re.reRawOf) := ints_of out fun v hv => by
      obtain ⟨e, he, q⟩ := List.mem_map.mp (pm.mem_iff.mp hv)
      obtain ⟨k, tk, h1, _⟩ := g e he
      exact ⟨k, tk, by rw [← q]; exact h1⟩
    refine fin s1 out ((out.map Builtin.Re.reRawOf).map iV) k1 g1 o1 ?_ ⟨_, rfl, ?_⟩
    · rw [List.map_map]
      exact vals_of_ints hi
    · have pq := pm.map Builtin.Re.reRawOf
      rw [List.map_map] at pq
      exact pq
  · obtain ⟨ks, rfl, pk⟩ := good
    have lk : ks.length < scanBound := by rw [pk.length_eq, List.length_map, Array.length_toList]; exact hb
    refine ⟨fun b hb => ?_, fun d hd e he => ?_, .inr fun d hd => ?_, fun b hb => ?_, ?_⟩
    · obtain ⟨k, _, rfl⟩ := List.mem_map.mp hb
      exact .int k
    · rw [List.map_map] at hd he
      obtain ⟨k, _, rfl⟩ := List.mem_map.mp hd
      obtain ⟨j, _, rfl⟩ := List.mem_map.mp he
      rfl
    · rw [List.map_map] at hd
      obtain ⟨k, _, rfl⟩ := List.mem_map.mp hd
      exact ⟨(fun e => nomatch e), fun xs e => nomatch e⟩
    · obtain ⟨k, _, rfl⟩ := List.mem_map.mp hb
      exact Nat.zero_le _
    · rw [List.length_map]
      exact fits_of_scanBound lk
  · obtain ⟨ks, rfl, pk⟩ := good
    have e1 : ((ks.map iV).mergeSort (PySem.W.dataLe false (fun b : V × PyData => b.2))) = (ks.mergeSort fun j k => decide (j ≤ k)).map iV := by
      rw [← List.map_mergeSort (r := fun j k : Int => decide (j ≤ k)) (s := PySem.W.dataLe false (fun b : V × PyData => b.2)) (f := iV) fun j _ k _ => (ints_le j k).symm]
    have e2 : ((ks.mergeSort fun j k => decide (j ≤ k)).map iV).map (·.1) = (ks.mergeSort fun j k => decide (j ≤ k)).map V.int := by rw [List.map_map]; rfl
    have pm := (List.mergeSort_perm ks fun j k => decide (j ≤ k)).trans pk
    have pw := List.pairwise_mergeSort (le := fun j k : Int => decide (j ≤ k)) (fun i j k h1 h2 => by simp at *; omega) (fun i j => by simp; omega) ks
    rw [e1, e2]
    refine q _ p (lt_of_le_nodup _ (pw.imp fun h => by simpa using h) (pm.nodup_iff.mpr nd)) (fun k => ?_) hp
    rw [pm.mem_iff, ← hm k]
theorem callSetI (K : PySem.W.Frag) (w : World) (hc : X.calm = true) (h : X.K = K := by rfl) (hw : X.w = w := by rfl) : CallR X (.type "set") (rSetI w K) := h ▸ hw ▸ cr_setI hc
theorem callSortSI (w : World) (hu : X.A.units + 65 < cLine) (hc : X.calm = true) (hw : X.w = w := by rfl) : CallR X (.builtin "sorted") (rSortSI w) := hw ▸ cr_sortSI hu hc
end
/-! ### the plain side -/
def dedup : List Int → List Int
  | [] => []
  | k :: ks => if k ∈ ks then dedup ks else k :: dedup ks
theorem mem_dedup : ∀ {ks : List Int} {k : Int}, k ∈ dedup ks ↔ k ∈ ks
  | [], k => Iff.rfl
  | j :: ks, k => by
    unfold dedup
    by_cases c : j ∈ ks
    · rw [if_pos c, mem_dedup, List.mem_cons]
      exact ⟨.inr, fun h => h.elim (fun e => e ▸ c) id⟩
    · rw [if_neg c, List.mem_cons, List.mem_cons, mem_dedup]
theorem dedup_nodup : ∀ (ks : List Int), (dedup ks).Nodup
  | [] => List.nodup_nil
  | j :: ks => by
    unfold dedup
    by_cases c : j ∈ ks
    · rw [if_pos c]; exact dedup_nodup ks
    · rw [if_neg c]; exact List.nodup_cons.mpr ⟨fun h => c (mem_dedup.mp h), dedup_nodup ks⟩
def oSSet : D → Option D
  | .lst ds => match intsD ds with
    | some ks => if ks.length + 1 < scanBound then some (.lst ((isort (dedup ks)).map .int)) else none
    | none => none
  | _ => none
theorem isort_mem {ks : List Int} {k : Int} : k ∈ isort ks ↔ k ∈ ks := (List.mergeSort_perm _ _).mem_iff
theorem isort_pw (ks : List Int) : (isort ks).Pairwise (· ≤ ·) := by
  have pw := List.pairwise_mergeSort (le := fun j k : Int => decide (j ≤ k)) (fun i j k h1 h2 => by simp at *; omega) (fun i j => by simp; omega) ks
  exact pw.imp fun h => by simpa using h
theorem rise_eq : ∀ {xs ys : List Int}, xs.Pairwise (· < ·) → ys.Pairwise (· < ·) → (∀ k, k ∈ xs ↔ k ∈ ys) → xs = ys
  | [], [], _, _, _ => rfl
  | [], y :: ys, _, _, h => absurd ((h y).mpr List.mem_cons_self) List.not_mem_nil
  | x :: xs, [], _, _, h => absurd ((h x).mp List.mem_cons_self) List.not_mem_nil
  | x :: xs, y :: ys, hx, hy, h => by
    obtain ⟨hx1, hx2⟩ := List.pairwise_cons.mp hx
    obtain ⟨hy1, hy2⟩ := List.pairwise_cons.mp hy
    have e : x = y := by
      have a1 := List.mem_cons.mp ((h x).mp List.mem_cons_self)
      have a2 := List.mem_cons.mp ((h y).mpr List.mem_cons_self)
      rcases a1 with a1 | a1
      · exact a1
      · rcases a2 with a2 | a2
        · exact a2.symm
        · have := hy1 x a1; have := hx1 y a2; omega
    subst e
    rw [rise_eq hx2 hy2 fun k => ?_]
    have := h k
    rw [List.mem_cons, List.mem_cons] at this
    constructor
    · intro hk
      rcases this.mp (.inr hk) with e | e
      · subst e; exact absurd (hx1 _ hk) (Int.lt_irrefl _)
      · exact e
    · intro hk
      rcases this.mpr (.inr hk) with e | e
      · subst e; exact absurd (hy1 _ hk) (Int.lt_irrefl _)
      · exact e
section
variable {S : Srd} {Γ : List Nat} {k1 k : Nat}
theorem o_sset (hk : k1 ≤ 1) : Op1 S k1 1 (fun x H Q => rSetI S.B.w S.K [x] H fun y H1 => rSortSI S.B.w [y] H1 Q) oSSet := fun μ own H x d1 d Q fr r1 e q => by
  unfold oSSet at e
  split at e
  · split at e
    · rename_i ds ks e1
      by_cases c : ks.length + 1 < scanBound
      · rw [if_pos c] at e
        simp only [Option.some.injEq] at e
        subst e
        obtain ⟨a, vs, rfl, s, t, z⟩ := r1.list hk
        have := t.intsD e1
        subst this
        refine ⟨a, ks, rfl, SqL.of s, c, fun p m hp => ⟨p, _, m, rfl, upd_same, fun ns p2 pw me hp2 => ?_⟩⟩
        have en : ns = isort (dedup ks) := by
          refine rise_eq pw (lt_of_le_nodup _ (isort_pw _) ((List.mergeSort_perm _ _).nodup_iff.mpr (dedup_nodup ks))) fun k => ?_
          rw [me k, isort_mem, mem_dedup, decide_eq_true_eq]
        subst en
        have hp3 : H p2 = none := by
          by_cases h : p2 = p
          · subst h; exact hp
          · rw [upd_ne h] at hp2; exact hp2
        have lz : ((isort (dedup ks)).map D.int).length ≤ sizeLine := by
          rw [List.length_map, isort_length]
          have : ∀ ks : List Int, (dedup ks).length ≤ ks.length := fun ks => by
            induction ks with
            | nil => exact Nat.le_refl _
            | cons j ks ih =>
              unfold dedup
              split
              · exact Nat.le_succ_of_le ih
              · exact Nat.succ_le_succ ih
          exact Nat.le_trans (this ks) (fits_of_scanBound (by omega))
        exact q _ _ (fun b o e => Grow.upd hp2 b o (Grow.upd hp b o e)) (RepK.newL (k := 0) upd_same ⟨fr p2 hp3, hp3⟩ (Reps.ints _) lz)
      · rw [if_neg c] at e; cases e
    · cases e
  · cases e
theorem sim_bi1s {g1 : Tag} {r2 r1 : List V → Hp → VK → Prop} {f : D → Option D} {t : TE} {m : ME} (ho : Op1 S k1 k (fun x H Q => r2 [x] H fun y H1 => r1 [y] H1 Q) f) (h : SimE S Γ g1 k1 t m) : SimE S Γ .fresh k (tCB r1 (tCons (tCB r2 (tCons t tNil)) tNil)) (e1 f m) :=
  sim_bi1 (r := fun xs H Q => r2 xs H fun y H1 => r1 [y] H1 Q) ho h
end
end M
/-! P1: reckoning with the plain functions, from the left, a step a rule. -/
namespace M
open PySem PySem.Spec PyProof.Rows L2
theorem nr.{u} {α : Sort u} {a b : α} (h : a = b) : a = b := h
/-- it comes to an end of which Q holds -/
@[irreducible] def Ok {α : Type} (r : Res α) (Q : α → Sto → Prop) : Prop := match r with
  | .ok a s => Q a s
  | _ => False
@[irreducible] def OkO {α : Type} (o : Option α) (Q : α → Prop) : Prop := match o with
  | some a => Q a
  | none => False
section
variable {α β : Type} {Q : α → Sto → Prop} {QE : D → Sto → Prop} {QA : List D → Sto → Prop} {QT : Bool → Sto → Prop} {QS : Out → Sto → Prop} {ρ : Env} {s : Sto}
theorem ok_ok {a : α} : Ok (.ok a s) Q = Q a s := nr (by with_unfolding_all rfl)
theorem ok_no : Ok (.no : Res α) Q = False := nr (by with_unfolding_all rfl)
theorem oko_some {a : α} {P : α → Prop} : OkO (some a) P = P a := nr (by with_unfolding_all rfl)
theorem oko_none {P : α → Prop} : OkO (none : Option α) P = False := nr (by with_unfolding_all rfl)
theorem ok_bind {r : Res β} {f : β → Sto → Res α} : Ok (r.bind f) Q = Ok r (fun a s => Ok (f a s) Q) := by cases r <;> with_unfolding_all rfl
theorem ok_ofO {o : Option α} : Ok (ofO o s) Q = OkO o (fun z => Q z s) := by cases o <;> with_unfolding_all rfl
theorem Ok.mono {r : Res α} {Q' : α → Sto → Prop} (h : Ok r Q) (hq : ∀ a s, Q a s → Q' a s) : Ok r Q' := by
  unfold Ok at h ⊢
  cases r <;> first | exact hq _ _ h | exact h
theorem Ok.get {r : Res α} (h : Ok r Q) : ∃ a s, r = .ok a s ∧ Q a s := by
  unfold Ok at h
  cases r <;> first | exact ⟨_, _, rfl, h⟩ | exact h.elim
theorem Ok.of {r : Res α} {a : α} (h : r = .ok a s) (q : Q a s) : Ok r Q := by rw [h, ok_ok]; exact q
theorem Ok.eq {r : Res α} {a : α} (h : Ok r fun b t => b = a ∧ t = s) : r = .ok a s := by
  obtain ⟨b, t, e, rfl, rfl⟩ := h.get
  exact e
theorem ok_ite {c : Prop} [Decidable c] {a b : Res α} : Ok (if c then a else b) Q = (if c then Ok a Q else Ok b Q) := by split <;> with_unfolding_all rfl

/-! ### expressions -/
theorem ok_eC {d : D} : Ok (eC d ρ s) QE = QE d s := nr (by with_unfolding_all rfl)
theorem ok_eV0 {x : D} : Ok (eV 0 (some x :: ρ) s) QE = QE x s := nr (by with_unfolding_all rfl)
theorem ok_eVs {i : Nat} {a : Option D} : Ok (eV (i + 1) (a :: ρ) s) QE = Ok (eV i ρ s) QE := nr (by with_unfolding_all rfl)
def K1 (f : D → Option D) (Q : D → Sto → Prop) : D → Sto → Prop := fun d s => OkO (f d) fun z => Q z s
theorem ok_e1 {f : D → Option D} {a : ME} : Ok (e1 f a ρ s) QE = Ok (a ρ s) (K1 f QE) := by
  unfold e1 K1; rw [ok_bind]; congr; funext d s1; rw [ok_ofO]
theorem k1 {f : D → Option D} {d : D} : K1 f QE d s = OkO (f d) fun z => QE z s := nr (by with_unfolding_all rfl)
def K2 (f : D → D → Option D) (d : D) (Q : D → Sto → Prop) : D → Sto → Prop := fun e s => OkO (f d e) fun z => Q z s
def K2a (f : D → D → Option D) (b : ME) (ρ : Env) (Q : D → Sto → Prop) : D → Sto → Prop := fun d s => Ok (b ρ s) (K2 f d Q)
theorem ok_e2 {f : D → D → Option D} {a b : ME} : Ok (e2 f a b ρ s) QE = Ok (a ρ s) (K2a f b ρ QE) := by
  unfold e2 K2a K2
  rw [ok_bind]
  congr
  funext d s1
  rw [ok_bind]
  congr
  funext e s2
  rw [ok_ofO]
theorem k2a {f : D → D → Option D} {b : ME} {d : D} : K2a f b ρ QE d s = Ok (b ρ s) (K2 f d QE) := nr (by with_unfolding_all rfl)
theorem k2 {f : D → D → Option D} {d e : D} : K2 f d QE e s = OkO (f d e) fun z => QE z s := nr (by with_unfolding_all rfl)
def KA (ms : List ME) (ρ : Env) (Q : List D → Sto → Prop) : D → Sto → Prop := fun d s => Ok (evs ms ρ s) fun ds s => Q (d :: ds) s
theorem ok_evs0 : Ok (evs [] ρ s) QA = QA [] s := nr (by with_unfolding_all rfl)
theorem ok_evs {m : ME} {ms : List ME} : Ok (evs (m :: ms) ρ s) QA = Ok (m ρ s) (KA ms ρ QA) := by
  show Ok ((m ρ s).bind _) QA = _
  unfold KA
  rw [ok_bind]
  congr
  funext d s1
  rw [ok_bind]
  with_unfolding_all rfl
theorem kA {ms : List ME} {d : D} : KA ms ρ QA d s = Ok (evs ms ρ s) fun ds s => QA (d :: ds) s := nr (by with_unfolding_all rfl)
def KTup (Q : D → Sto → Prop) : List D → Sto → Prop := fun ds s => Q (.tup ds) s
def KLst (Q : D → Sto → Prop) : List D → Sto → Prop := fun ds s => Q (.lst ds) s
def KB (f : List D → Option D) (Q : D → Sto → Prop) : List D → Sto → Prop := fun ds s => OkO (f ds) fun z => Q z s
def KCall (g : List D → Sto → Res D) (Q : D → Sto → Prop) : List D → Sto → Prop := fun ds s => Ok (g ds s) Q
theorem ok_eTup {ms : List ME} : Ok (eTup ms ρ s) QE = Ok (evs ms ρ s) (KTup QE) := by unfold eTup; rw [ok_bind]; with_unfolding_all rfl
theorem ok_eLst {ms : List ME} : Ok (eLst ms ρ s) QE = Ok (evs ms ρ s) (KLst QE) := by unfold eLst; rw [ok_bind]; with_unfolding_all rfl
theorem ok_eB {f : List D → Option D} {ms : List ME} : Ok (eB f ms ρ s) QE = Ok (evs ms ρ s) (KB f QE) := by
  unfold eB KB; rw [ok_bind]; congr; funext d s1; rw [ok_ofO]
theorem ok_eCall {g : List D → Sto → Res D} {ms : List ME} : Ok (eCall g ms ρ s) QE = Ok (evs ms ρ s) (KCall g QE) := by unfold eCall; rw [ok_bind]; with_unfolding_all rfl
theorem kTup {ds : List D} : KTup QE ds s = QE (.tup ds) s := nr (by with_unfolding_all rfl)
theorem kLst {ds : List D} : KLst QE ds s = QE (.lst ds) s := nr (by with_unfolding_all rfl)
theorem kB {f : List D → Option D} {ds : List D} : KB f QE ds s = OkO (f ds) fun z => QE z s := nr (by with_unfolding_all rfl)
theorem kCall {g : List D → Sto → Res D} {ds : List D} : KCall g QE ds s = Ok (g ds s) QE := nr (by with_unfolding_all rfl)
def KIfE (a b : ME) (ρ : Env) (Q : D → Sto → Prop) : Bool → Sto → Prop := fun c s => if c = true then Ok (a ρ s) Q else Ok (b ρ s) Q
theorem ok_eIf {c : MT} {a b : ME} : Ok (eIf c a b ρ s) QE = Ok (c ρ s) (KIfE a b ρ QE) := by
  unfold eIf KIfE; rw [ok_bind]; congr; funext t s1; rw [ok_ite]
theorem kIfE {a b : ME} {c : Bool} : KIfE a b ρ QE c s = if c = true then Ok (a ρ s) QE else Ok (b ρ s) QE := nr (by with_unfolding_all rfl)
def KAnd (b : ME) (ρ : Env) (Q : D → Sto → Prop) : D → Sto → Prop := fun d s => match d with
  | .bl c => if c = true then Ok (b ρ s) Q else Q (.bl false) s
  | _ => False
theorem ok_eAnd {a b : ME} : Ok (eAnd a b ρ s) QE = Ok (a ρ s) (KAnd b ρ QE) := by
  unfold eAnd KAnd; rw [ok_bind]; congr; funext d s1
  cases d with
  | bl c => cases c <;> with_unfolding_all rfl
  | _ => with_unfolding_all rfl
theorem kAnd {b : ME} {c : Bool} : KAnd b ρ QE (.bl c) s = if c = true then Ok (b ρ s) QE else QE (.bl false) s := nr (by with_unfolding_all rfl)
def KOr (b : ME) (ρ : Env) (Q : D → Sto → Prop) : D → Sto → Prop := fun d s => match d with
  | .bl c => if c = true then Q (.bl true) s else Ok (b ρ s) Q
  | _ => False
theorem ok_eOr {a b : ME} : Ok (eOr a b ρ s) QE = Ok (a ρ s) (KOr b ρ QE) := by
  unfold eOr KOr; rw [ok_bind]; congr; funext d s1
  cases d with
  | bl c => cases c <;> with_unfolding_all rfl
  | _ => with_unfolding_all rfl
theorem kOr {b : ME} {c : Bool} : KOr b ρ QE (.bl c) s = if c = true then QE (.bl true) s else Ok (b ρ s) QE := nr (by with_unfolding_all rfl)
def KNotE (Q : D → Sto → Prop) : D → Sto → Prop := fun d s => match d with
  | .bl c => Q (.bl (!c)) s
  | _ => False
theorem ok_eNot {a : ME} : Ok (eNot a ρ s) QE = Ok (a ρ s) (KNotE QE) := by
  unfold eNot KNotE; rw [ok_bind]; congr; funext d s1
  cases d <;> with_unfolding_all rfl
theorem kNotE {c : Bool} : KNotE QE (.bl c) s = QE (.bl (!c)) s := nr (by with_unfolding_all rfl)
def KCh2 (f' : D → D → Option D) (e : D) (Q : D → Sto → Prop) : D → Sto → Prop := fun z s => OkO (f' e z) fun y => Q y s
def KCh1 (f f' : D → D → Option D) (d : D) (c : ME) (ρ : Env) (Q : D → Sto → Prop) : D → Sto → Prop := fun e s => OkO (f d e) fun z => match z with
  | .bl b => if b = true then Ok (c ρ s) (KCh2 f' e Q) else Q (.bl false) s
  | _ => False
def KCh (f f' : D → D → Option D) (b c : ME) (ρ : Env) (Q : D → Sto → Prop) : D → Sto → Prop := fun d s => Ok (b ρ s) (KCh1 f f' d c ρ Q)
theorem ok_eChain {f f' : D → D → Option D} {a b c : ME} : Ok (eChain f f' a b c ρ s) QE = Ok (a ρ s) (KCh f f' b c ρ QE) := by
  unfold eChain KCh KCh1 KCh2
  rw [ok_bind]
  congr
  funext d s1
  rw [ok_bind]
  congr
  funext e s2
  cases f d e with
  | none => with_unfolding_all rfl
  | some z =>
    cases z with
    | bl b =>
      cases b with
      | false => with_unfolding_all rfl
      | true =>
        simp only [oko_some, if_true]
        rw [ok_bind]
        congr
        funext y s3
        rw [ok_ofO]
    | _ => with_unfolding_all rfl
theorem kCh {f f' : D → D → Option D} {b c : ME} {d : D} : KCh f f' b c ρ QE d s = Ok (b ρ s) (KCh1 f f' d c ρ QE) := nr (by with_unfolding_all rfl)
theorem kCh1 {f f' : D → D → Option D} {c : ME} {d e : D} {b : Bool} (h : f d e = some (.bl b)) : KCh1 f f' d c ρ QE e s = if b = true then Ok (c ρ s) (KCh2 f' e QE) else QE (.bl false) s := by
  unfold KCh1; rw [h]; with_unfolding_all rfl
theorem kCh2 {f' : D → D → Option D} {e z : D} : KCh2 f' e QE z s = OkO (f' e z) fun y => QE y s := nr (by with_unfolding_all rfl)

/-! ### tests -/
def KTo (Q : Bool → Sto → Prop) : D → Sto → Prop := fun d s => match d with
  | .bl b => Q b s
  | _ => False
theorem ok_tOfE {m : ME} : Ok (tOfE m ρ s) QT = Ok (m ρ s) (KTo QT) := by
  unfold tOfE KTo; rw [ok_bind]; congr; funext d s1
  cases d <;> with_unfolding_all rfl
theorem kTo {b : Bool} : KTo QT (.bl b) s = QT b s := nr (by with_unfolding_all rfl)
def KTru (Q : Bool → Sto → Prop) : D → Sto → Prop := fun d s => OkO (truth d) fun b => Q b s
theorem ok_tTru {m : ME} : Ok (tTru m ρ s) QT = Ok (m ρ s) (KTru QT) := by
  unfold tTru KTru; rw [ok_bind]; congr; funext d s1; rw [ok_ofO]
theorem kTru {d : D} : KTru QT d s = OkO (truth d) fun b => QT b s := nr (by with_unfolding_all rfl)
def KTAnd (b : MT) (ρ : Env) (Q : Bool → Sto → Prop) : Bool → Sto → Prop := fun c s => if c = true then Ok (b ρ s) Q else Q false s
def KTOr (b : MT) (ρ : Env) (Q : Bool → Sto → Prop) : Bool → Sto → Prop := fun c s => if c = true then Q true s else Ok (b ρ s) Q
def KTNot (Q : Bool → Sto → Prop) : Bool → Sto → Prop := fun c s => Q (!c) s
theorem ok_tAnd {a b : MT} : Ok (tAndM a b ρ s) QT = Ok (a ρ s) (KTAnd b ρ QT) := by
  unfold tAndM KTAnd; rw [ok_bind]; congr; funext c s1; rw [ok_ite]; with_unfolding_all rfl
theorem ok_tOr {a b : MT} : Ok (tOrM a b ρ s) QT = Ok (a ρ s) (KTOr b ρ QT) := by
  unfold tOrM KTOr; rw [ok_bind]; congr; funext c s1; rw [ok_ite]; with_unfolding_all rfl
theorem ok_tNot {a : MT} : Ok (tNotM a ρ s) QT = Ok (a ρ s) (KTNot QT) := by unfold tNotM; rw [ok_bind]; with_unfolding_all rfl
theorem kTAnd {b : MT} {c : Bool} : KTAnd b ρ QT c s = if c = true then Ok (b ρ s) QT else QT false s := nr (by with_unfolding_all rfl)
theorem kTOr {b : MT} {c : Bool} : KTOr b ρ QT c s = if c = true then QT true s else Ok (b ρ s) QT := nr (by with_unfolding_all rfl)
theorem kTNot {c : Bool} : KTNot QT c s = QT (!c) s := nr (by with_unfolding_all rfl)
theorem ok_tYes : Ok (tYesM ρ s) QT = QT true s := nr (by with_unfolding_all rfl)

/-! ### slices, dicts of the store -/
abbrev QOp := Option Int → Sto → Prop
theorem ok_pNo {Q : QOp} : Ok (pNo ρ s) Q = Q none s := nr (by with_unfolding_all rfl)
def KPs (Q : QOp) : D → Sto → Prop := fun d s => match d with
  | .int i => Q (some i) s
  | _ => False
theorem ok_pSome {m : ME} {Q : QOp} : Ok (pSome m ρ s) Q = Ok (m ρ s) (KPs Q) := by
  unfold pSome KPs; rw [ok_bind]; congr; funext d s1
  cases d <;> with_unfolding_all rfl
theorem kPs {i : Int} {Q : QOp} : KPs Q (.int i) s = Q (some i) s := nr (by with_unfolding_all rfl)
def KCut2 (d : D) (l : Option Int) (Q : D → Sto → Prop) : QOp := fun u s => OkO (oCut d l u) fun z => Q z s
def KCut1 (d : D) (hi : MO) (ρ : Env) (Q : D → Sto → Prop) : QOp := fun l s => Ok (hi ρ s) (KCut2 d l Q)
def KCut (lo hi : MO) (ρ : Env) (Q : D → Sto → Prop) : D → Sto → Prop := fun d s => Ok (lo ρ s) (KCut1 d hi ρ Q)
theorem ok_eCut {m : ME} {lo hi : MO} : Ok (eCut m lo hi ρ s) QE = Ok (m ρ s) (KCut lo hi ρ QE) := by
  unfold eCut KCut KCut1 KCut2
  rw [ok_bind]; congr; funext d s1
  rw [ok_bind]; congr; funext l s2
  rw [ok_bind]; congr; funext u s3
  rw [ok_ofO]
theorem kCut {lo hi : MO} {d : D} : KCut lo hi ρ QE d s = Ok (lo ρ s) (KCut1 d hi ρ QE) := nr (by with_unfolding_all rfl)
theorem kCut1 {hi : MO} {d : D} {l : Option Int} : KCut1 d hi ρ QE l s = Ok (hi ρ s) (KCut2 d l QE) := nr (by with_unfolding_all rfl)
theorem kCut2 {d : D} {l u : Option Int} : KCut2 d l QE u s = OkO (oCut d l u) fun z => QE z s := nr (by with_unfolding_all rfl)
/-- a look into a dict of the store -/
def dkGet (s : Sto) (d kd : D) : Option D := (atDk s d kd).bind fun x => lookK x.2.1 x.2.2
def KDg2 (d : D) (Q : D → Sto → Prop) : D → Sto → Prop := fun kd s => OkO (dkGet s d kd) fun z => Q z s
def KDg (k : ME) (ρ : Env) (Q : D → Sto → Prop) : D → Sto → Prop := fun d s => Ok (k ρ s) (KDg2 d Q)
theorem ok_eDGet {a k : ME} : Ok (eDGet a k ρ s) QE = Ok (a ρ s) (KDg k ρ QE) := by
  unfold eDGet KDg KDg2 dkGet
  rw [ok_bind]; congr; funext d s1
  rw [ok_bind]; congr; funext kd s2
  cases atDk s2 d kd with
  | none => with_unfolding_all rfl
  | some x => exact ok_ofO
theorem kDg {k : ME} {d : D} : KDg k ρ QE d s = Ok (k ρ s) (KDg2 d QE) := nr (by with_unfolding_all rfl)
theorem kDg2 {d kd : D} : KDg2 d QE kd s = OkO (dkGet s d kd) fun z => QE z s := nr (by with_unfolding_all rfl)

/-! ### statements -/
def KSeq (b : MS) (Q : Out → Sto → Prop) : Out → Sto → Prop := fun o s => match o with
  | .nx ρ => Ok (b ρ s) Q
  | .rt d => Q (.rt d) s
  | .bk ρ => Q (.bk ρ) s
  | .ct ρ => Q (.ct ρ) s
theorem ok_sSeq {a b : MS} : Ok (sSeq a b ρ s) QS = Ok (a ρ s) (KSeq b QS) := by
  unfold sSeq KSeq; rw [ok_bind]; congr; funext o s1
  cases o <;> with_unfolding_all rfl
theorem kSeq_nx {b : MS} : KSeq b QS (.nx ρ) s = Ok (b ρ s) QS := nr (by with_unfolding_all rfl)
theorem kSeq_rt {b : MS} {d : D} : KSeq b QS (.rt d) s = QS (.rt d) s := nr (by with_unfolding_all rfl)
theorem kSeq_bk {b : MS} : KSeq b QS (.bk ρ) s = QS (.bk ρ) s := nr (by with_unfolding_all rfl)
theorem kSeq_ct {b : MS} : KSeq b QS (.ct ρ) s = QS (.ct ρ) s := nr (by with_unfolding_all rfl)
def KSet (i : Nat) (ρ : Env) (Q : Out → Sto → Prop) : D → Sto → Prop := fun d s => Q (.nx (ρ.set i (some d))) s
theorem ok_sSet {i : Nat} {m : ME} : Ok (sSet i m ρ s) QS = Ok (m ρ s) (KSet i ρ QS) := by unfold sSet; rw [ok_bind]; with_unfolding_all rfl
theorem kSet {i : Nat} {d : D} : KSet i ρ QS d s = QS (.nx (ρ.set i (some d))) s := nr (by with_unfolding_all rfl)
def KAsg (mg : MG) (ρ : Env) (Q : Out → Sto → Prop) : D → Sto → Prop := fun d s => OkO (mg d ρ) fun ρ1 => Q (.nx ρ1) s
theorem ok_sAsg {m : ME} {mg : MG} : Ok (sAsg m mg ρ s) QS = Ok (m ρ s) (KAsg mg ρ QS) := by
  unfold sAsg KAsg; rw [ok_bind]; congr; funext d s1
  cases mg d ρ <;> with_unfolding_all rfl
theorem kAsg {mg : MG} {d : D} : KAsg mg ρ QS d s = OkO (mg d ρ) fun ρ1 => QS (.nx ρ1) s := nr (by with_unfolding_all rfl)
def KPar (i j : Nat) (ρ : Env) (Q : Out → Sto → Prop) : List D → Sto → Prop := fun ds s => match ds with
  | [d, e] => Q (.nx ((ρ.set i (some d)).set j (some e))) s
  | _ => False
theorem ok_sPar {i j : Nat} {ms : List ME} : Ok (sPar i j ms ρ s) QS = Ok (evs ms ρ s) (KPar i j ρ QS) := by
  unfold sPar KPar; rw [ok_bind]; congr; funext ds s1
  match ds with
  | [] => with_unfolding_all rfl
  | [_] => with_unfolding_all rfl
  | [_, _] => with_unfolding_all rfl
  | _ :: _ :: _ :: _ => with_unfolding_all rfl
theorem kPar {i j : Nat} {d e : D} : KPar i j ρ QS [d, e] s = QS (.nx ((ρ.set i (some d)).set j (some e))) s := nr (by with_unfolding_all rfl)
def KDrop (ρ : Env) (Q : Out → Sto → Prop) : D → Sto → Prop := fun _ s => Q (.nx ρ) s
theorem ok_sDrop {m : ME} : Ok (sDrop m ρ s) QS = Ok (m ρ s) (KDrop ρ QS) := by unfold sDrop; rw [ok_bind]; with_unfolding_all rfl
theorem kDrop {d : D} : KDrop ρ QS d s = QS (.nx ρ) s := nr (by with_unfolding_all rfl)
def KRet (Q : Out → Sto → Prop) : D → Sto → Prop := fun d s => Q (.rt d) s
theorem ok_sRet {m : ME} : Ok (sRet m ρ s) QS = Ok (m ρ s) (KRet QS) := by unfold sRet; rw [ok_bind]; with_unfolding_all rfl
theorem kRet {d : D} : KRet QS d s = QS (.rt d) s := nr (by with_unfolding_all rfl)
theorem ok_sRetN : Ok (sRetN ρ s) QS = QS (.rt .non) s := nr (by with_unfolding_all rfl)
theorem ok_sNext : Ok (sNext ρ s) QS = QS (.nx ρ) s := nr (by with_unfolding_all rfl)
theorem ok_sBrk : Ok (sBrk ρ s) QS = QS (.bk ρ) s := nr (by with_unfolding_all rfl)
theorem ok_sCnt : Ok (sCnt ρ s) QS = QS (.ct ρ) s := nr (by with_unfolding_all rfl)
def KIf (a b : MS) (ρ : Env) (Q : Out → Sto → Prop) : Bool → Sto → Prop := fun c s => if c = true then Ok (a ρ s) Q else Ok (b ρ s) Q
theorem ok_sIf {c : MT} {a b : MS} : Ok (sIf c a b ρ s) QS = Ok (c ρ s) (KIf a b ρ QS) := by
  unfold sIf KIf; rw [ok_bind]; congr; funext t s1; rw [ok_ite]
theorem kIf {a b : MS} {c : Bool} : KIf a b ρ QS c s = if c = true then Ok (a ρ s) QS else Ok (b ρ s) QS := nr (by with_unfolding_all rfl)
def KAug (i : Nat) (f : D → D → Option D) (x : D) (ρ : Env) (Q : Out → Sto → Prop) : D → Sto → Prop := fun y s => OkO (f x y) fun z => Q (.nx (ρ.set i (some z))) s
theorem ok_sAug {i : Nat} {f : D → D → Option D} {m : ME} {x : D} (h : ρ[i]? = some (some x)) : Ok (sAug i f m ρ s) QS = Ok (m ρ s) (KAug i f x ρ QS) := by
  unfold sAug KAug; rw [h]; simp only; rw [ok_bind]; congr; funext y s1
  cases f x y <;> with_unfolding_all rfl
theorem kAug {i : Nat} {f : D → D → Option D} {x y : D} : KAug i f x ρ QS y s = OkO (f x y) fun z => QS (.nx (ρ.set i (some z))) s := nr (by with_unfolding_all rfl)
def KApp (i : Nat) (ds : List D) (ρ : Env) (Q : Out → Sto → Prop) : D → Sto → Prop := fun d s => ds.length < sizeLine ∧ Q (.nx (ρ.set i (some (.lst (ds ++ [d]))))) s
theorem ok_sApp {i : Nat} {m : ME} {ds : List D} (h : ρ[i]? = some (some (.lst ds))) : Ok (sApp i m ρ s) QS = Ok (m ρ s) (KApp i ds ρ QS) := by
  unfold sApp KApp; rw [h]; simp only; rw [ok_bind]; congr; funext d s1
  by_cases c : ds.length < sizeLine
  · rw [if_pos c]; simp only [c, true_and]; with_unfolding_all rfl
  · rw [if_neg c, ok_no]; exact (eq_false fun h => c h.1).symm
theorem kApp {i : Nat} {ds : List D} {d : D} : KApp i ds ρ QS d s = (ds.length < sizeLine ∧ QS (.nx (ρ.set i (some (.lst (ds ++ [d]))))) s) := nr (by with_unfolding_all rfl)
def KFor (mg : MG) (b : MS) (ρ : Env) (Q : Out → Sto → Prop) : List D → Sto → Prop := fun ds s => Ok (forD mg b ds ρ s) Q
theorem ok_sFor {mi : MI} {mg : MG} {b : MS} : Ok (sFor mi mg b ρ s) QS = Ok (mi ρ s) (KFor mg b ρ QS) := by unfold sFor; rw [ok_bind]; with_unfolding_all rfl
theorem kFor {mg : MG} {b : MS} {ds : List D} : KFor mg b ρ QS ds s = Ok (forD mg b ds ρ s) QS := nr (by with_unfolding_all rfl)
def KFn (Q : D → Sto → Prop) : Out → Sto → Prop := fun o s => match o with
  | .rt d => Q d s
  | .nx _ => Q .non s
  | _ => False
theorem ok_fnM {n : Nat} {m : MS} {ds : List D} : Ok (fnM n m ds s) QE = Ok (m (env0 n ds) s) (KFn QE) := by
  unfold fnM KFn; rw [ok_bind]; congr; funext o s1
  cases o <;> with_unfolding_all rfl
theorem kFn_rt {d : D} : KFn QE (.rt d) s = QE d s := nr (by with_unfolding_all rfl)
theorem kFn_nx : KFn QE (.nx ρ) s = QE .non s := nr (by with_unfolding_all rfl)

/-! ### what is walked -/
theorem iS_lst {m : ME} {ds : List D} : Ok (iS m ρ s) QA = Ok (m ρ s) (fun d s => match d with | .lst ds => QA ds s | .tup ds => QA ds s | _ => False) := by
  unfold iS; rw [ok_bind]; congr; funext d s1
  cases d <;> with_unfolding_all rfl
def KIS (Q : List D → Sto → Prop) : D → Sto → Prop := fun d s => match d with
  | .lst ds => Q ds s
  | .tup ds => Q ds s
  | _ => False
theorem ok_iS {m : ME} : Ok (iS m ρ s) QA = Ok (m ρ s) (KIS QA) := by
  unfold iS KIS; rw [ok_bind]; congr; funext d s1
  cases d <;> with_unfolding_all rfl
theorem kIS_lst {ds : List D} : KIS QA (.lst ds) s = QA ds s := nr (by with_unfolding_all rfl)
theorem kIS_tup {ds : List D} : KIS QA (.tup ds) s = QA ds s := nr (by with_unfolding_all rfl)
def KR1 (Q : List D → Sto → Prop) : List D → Sto → Prop := fun ds s => match ds with
  | [.int j] => (-(2 ^ 62) ≤ j ∧ j ≤ 16777216) ∧ Q (rngD 0 j.toNat) s
  | _ => False
theorem ok_iR1 {ms : List ME} : Ok (iR1 ms ρ s) QA = Ok (evs ms ρ s) (KR1 QA) := by
  unfold iR1 KR1; rw [ok_bind]; congr; funext ds s1
  have key : ∀ j : Int, Ok (if -(2 ^ 62) ≤ j ∧ j ≤ 16777216 then .ok (rngD 0 j.toNat) s1 else .no) QA = ((-(2 ^ 62) ≤ j ∧ j ≤ 16777216) ∧ QA (rngD 0 j.toNat) s1) := fun j => by
    by_cases c : -(2 ^ 62) ≤ j ∧ j ≤ 16777216
    · rw [if_pos c]; simp only [c, true_and, and_self]; with_unfolding_all rfl
    · rw [if_neg c, ok_no]; exact (eq_false fun h => c h.1).symm
  match ds with
  | [] => with_unfolding_all rfl
  | [d] => cases d <;> first | exact key _ | with_unfolding_all rfl
  | d :: _ :: _ => cases d <;> with_unfolding_all rfl
theorem kR1 {j : Int} : KR1 QA [.int j] s = ((-(2 ^ 62) ≤ j ∧ j ≤ 16777216) ∧ QA (rngD 0 j.toNat) s) := nr (by with_unfolding_all rfl)
def KR2 (Q : List D → Sto → Prop) : List D → Sto → Prop := fun ds s => match ds with
  | [.int i, .int j] => (-(2 ^ 62) ≤ i ∧ i < 2 ^ 62 ∧ -(2 ^ 62) ≤ j ∧ j < 2 ^ 62 ∧ j - i ≤ 16777216) ∧ Q (rngD i (j - i).toNat) s
  | _ => False
theorem ok_iR2 {ms : List ME} : Ok (iR2 ms ρ s) QA = Ok (evs ms ρ s) (KR2 QA) := by
  unfold iR2 KR2; rw [ok_bind]; congr; funext ds s1
  have key : ∀ i j : Int, Ok (if -(2 ^ 62) ≤ i ∧ i < 2 ^ 62 ∧ -(2 ^ 62) ≤ j ∧ j < 2 ^ 62 ∧ j - i ≤ 16777216 then .ok (rngD i (j - i).toNat) s1 else .no) QA = ((-(2 ^ 62) ≤ i ∧ i < 2 ^ 62 ∧ -(2 ^ 62) ≤ j ∧ j < 2 ^ 62 ∧ j - i ≤ 16777216) ∧ QA (rngD i (j - i).toNat) s1) := fun i j => by
    by_cases c : -(2 ^ 62) ≤ i ∧ i < 2 ^ 62 ∧ -(2 ^ 62) ≤ j ∧ j < 2 ^ 62 ∧ j - i ≤ 16777216
    · rw [if_pos c]; simp only [c, true_and, and_self]; with_unfolding_all rfl
    · rw [if_neg c, ok_no]; exact (eq_false fun h => c h.1).symm
  match ds with
  | [] => with_unfolding_all rfl
  | [d] => cases d <;> with_unfolding_all rfl
  | [d, e] => cases d <;> cases e <;> first | exact key _ _ | with_unfolding_all rfl
  | d :: e :: _ :: _ => cases d <;> cases e <;> with_unfolding_all rfl
theorem kR2 {i j : Int} : KR2 QA [.int i, .int j] s = ((-(2 ^ 62) ≤ i ∧ i < 2 ^ 62 ∧ -(2 ^ 62) ≤ j ∧ j < 2 ^ 62 ∧ j - i ≤ 16777216) ∧ QA (rngD i (j - i).toNat) s) := nr (by with_unfolding_all rfl)
def KRg (t : List D → D) (Q : D → Sto → Prop) : Int × Int → Sto → Prop := fun p s => rgOk p.1 p.2 = true ∧ Q (t (rngD p.1 (p.2 - p.1).toNat)) s
theorem ok_eLstRg {r : MRg} : Ok (eLstRg r ρ s) QE = Ok (r ρ s) (KRg .lst QE) := by
  unfold eLstRg KRg; rw [ok_bind]; congr; funext p s1
  by_cases c : rgOk p.1 p.2 = true
  · rw [if_pos c]; simp only [c, true_and]; with_unfolding_all rfl
  · rw [if_neg c, ok_no]; exact (eq_false fun h => c h.1).symm
theorem ok_eTupRg {r : MRg} : Ok (eTupRg r ρ s) QE = Ok (r ρ s) (KRg .tup QE) := by
  unfold eTupRg KRg; rw [ok_bind]; congr; funext p s1
  by_cases c : rgOk p.1 p.2 = true
  · rw [if_pos c]; simp only [c, true_and]; with_unfolding_all rfl
  · rw [if_neg c, ok_no]; exact (eq_false fun h => c h.1).symm
theorem kRg {t : List D → D} {a b : Int} : KRg t QE (a, b) s = (rgOk a b = true ∧ QE (t (rngD a (b - a).toNat)) s) := nr (by with_unfolding_all rfl)
def KRg1 (Q : Int × Int → Sto → Prop) : D → Sto → Prop := fun d s => match d with
  | .int j => Q (0, j) s
  | _ => False
theorem ok_rg1 {m : ME} {Q : Int × Int → Sto → Prop} : Ok (rg1 m ρ s) Q = Ok (m ρ s) (KRg1 Q) := by
  unfold rg1 KRg1; rw [ok_bind]; congr; funext d s1
  cases d <;> with_unfolding_all rfl
theorem kRg1 {j : Int} {Q : Int × Int → Sto → Prop} : KRg1 Q (.int j) s = Q (0, j) s := nr (by with_unfolding_all rfl)
def KRg2b (i : Int) (Q : Int × Int → Sto → Prop) : D → Sto → Prop := fun e s => match e with
  | .int j => Q (i, j) s
  | _ => False
def KRg2 (b : ME) (ρ : Env) (Q : Int × Int → Sto → Prop) : D → Sto → Prop := fun d s => match d with
  | .int i => Ok (b ρ s) (KRg2b i Q)
  | _ => Ok (b ρ s) fun _ _ => False
theorem ok_rg2 {a b : ME} {Q : Int × Int → Sto → Prop} : Ok (rg2 a b ρ s) Q = Ok (a ρ s) (KRg2 b ρ Q) := by
  unfold rg2 KRg2 KRg2b; rw [ok_bind]; congr; funext d s1
  rw [ok_bind]
  cases d <;> (first | with_unfolding_all rfl | (simp only; congr; funext e s2; first | with_unfolding_all rfl | (cases e <;> with_unfolding_all rfl)))
theorem kRg2 {b : ME} {i : Int} {Q : Int × Int → Sto → Prop} : KRg2 b ρ Q (.int i) s = Ok (b ρ s) (KRg2b i Q) := nr (by with_unfolding_all rfl)
theorem kRg2b {i j : Int} {Q : Int × Int → Sto → Prop} : KRg2b i Q (.int j) s = Q (i, j) s := nr (by with_unfolding_all rfl)
def KM1b (f : D → D → Option D) (d : D) (Q : D → Sto → Prop) : D → Sto → Prop := fun e s => OkO (f d e) fun z => Q z s
def KM1 (p : D → Bool) (f : D → D → Option D) (b : ME) (ρ : Env) (Q : D → Sto → Prop) : D → Sto → Prop := fun d s => p d = true ∧ Ok (b ρ s) (KM1b f d Q)
theorem ok_eM1 {p : D → Bool} {f : D → D → Option D} {a b : ME} : Ok (eM1 p f a b ρ s) QE = Ok (a ρ s) (KM1 p f b ρ QE) := by
  unfold eM1 KM1 KM1b; rw [ok_bind]; congr; funext d s1
  by_cases c : p d = true
  · rw [if_pos c]; simp only [c, true_and]; rw [ok_bind]; congr; funext e s2; rw [ok_ofO]
  · rw [if_neg c, ok_no]; exact (eq_false fun h => c h.1).symm
theorem kM1 {p : D → Bool} {f : D → D → Option D} {b : ME} {d : D} : KM1 p f b ρ QE d s = (p d = true ∧ Ok (b ρ s) (KM1b f d QE)) := nr (by with_unfolding_all rfl)
theorem kM1b {f : D → D → Option D} {d e : D} : KM1b f d QE e s = OkO (f d e) fun z => QE z s := nr (by with_unfolding_all rfl)

/-! ### comprehensions -/
def KComp1 (Q : D → Sto → Prop) : List D → Sto → Prop := fun ys s => Q (.lst ys) s
def KComp (mg : MG) (mt : MT) (me : ME) (vs : List Nat) (ρ : Env) (Q : D → Sto → Prop) : List D → Sto → Prop := fun ds s => Ok (compL mg mt me (wipeE ρ vs) ds s) (KComp1 Q)
theorem ok_eComp {mi : MI} {mg : MG} {mt : MT} {me : ME} {vs : List Nat} : Ok (eComp mi mg mt me vs ρ s) QE = Ok (mi ρ s) (KComp mg mt me vs ρ QE) := by
  unfold eComp KComp KComp1; rw [ok_bind]; congr; funext ds s1; rw [ok_bind]; with_unfolding_all rfl
theorem kComp {mg : MG} {mt : MT} {me : ME} {vs : List Nat} {ds : List D} : KComp mg mt me vs ρ QE ds s = Ok (compL mg mt me (wipeE ρ vs) ds s) (KComp1 QE) := nr (by with_unfolding_all rfl)
theorem kComp1 {ys : List D} : KComp1 QE ys s = QE (.lst ys) s := nr (by with_unfolding_all rfl)
def KCompB (Q : D → Sto → Prop) : List D → Sto → Prop := fun ys s => ys.length ≤ sizeLine ∧ Q (.lst ys) s
def KCompC (mg : MG) (mt : MT) (mi1 : MI) (mg1 : MG) (mt1 : MT) (me : ME) (vs vs1 : List Nat) (ρ : Env) (Q : D → Sto → Prop) : List D → Sto → Prop := fun ds s => Ok (compL2 mg mt mi1 mg1 mt1 me vs1 (wipeE ρ vs) ds s) (KCompB Q)
theorem ok_eComp2 {mi : MI} {mg : MG} {mt : MT} {mi1 : MI} {mg1 : MG} {mt1 : MT} {me : ME} {vs vs1 : List Nat} : Ok (eComp2 mi mg mt mi1 mg1 mt1 me vs vs1 ρ s) QE = Ok (mi ρ s) (KCompC mg mt mi1 mg1 mt1 me vs vs1 ρ QE) := by
  unfold eComp2 KCompC KCompB; rw [ok_bind]; congr; funext ds s1; rw [ok_bind]; congr; funext ys s2
  by_cases c : ys.length ≤ sizeLine
  · rw [if_pos c]; simp only [c, true_and]; with_unfolding_all rfl
  · rw [if_neg c, ok_no]; exact (eq_false fun h => c h.1).symm
theorem kCompC {mg : MG} {mt : MT} {mi1 : MI} {mg1 : MG} {mt1 : MT} {me : ME} {vs vs1 : List Nat} {ds : List D} : KCompC mg mt mi1 mg1 mt1 me vs vs1 ρ QE ds s = Ok (compL2 mg mt mi1 mg1 mt1 me vs1 (wipeE ρ vs) ds s) (KCompB QE) := nr (by with_unfolding_all rfl)
theorem kCompB {ys : List D} : KCompB QE ys s = (ys.length ≤ sizeLine ∧ QE (.lst ys) s) := nr (by with_unfolding_all rfl)
end

/-! ### values -/
theorem v_sub {i j : Int} : oSub (.int i) (.int j) = some (.int (i - j)) := nr (by with_unfolding_all rfl)
theorem v_addI {i j : Int} : oAdd (.int i) (.int j) = some (.int (i + j)) := nr (by with_unfolding_all rfl)
theorem v_addA {i j : Int} : oAddI (.int i) (.int j) = some (.int (i + j)) := nr (by with_unfolding_all rfl)
theorem v_subA {i j : Int} : oSubI (.int i) (.int j) = some (.int (i - j)) := nr (by with_unfolding_all rfl)
theorem v_lt {i j : Int} : oLt (.int i) (.int j) = some (.bl (decide (i < j))) := nr (by with_unfolding_all rfl)
theorem v_le {i j : Int} : oLe (.int i) (.int j) = some (.bl (decide (i ≤ j))) := nr (by with_unfolding_all rfl)
theorem v_gt {i j : Int} : oGt (.int i) (.int j) = some (.bl (decide (j < i))) := nr (by with_unfolding_all rfl)
theorem v_ge {i j : Int} : oGe (.int i) (.int j) = some (.bl (decide (j ≤ i))) := nr (by with_unfolding_all rfl)
theorem v_int {i : Int} : oInt [.int i] = some (.int i) := nr (by with_unfolding_all rfl)
theorem v_lenL {ds : List D} : oLen (.lst ds) = some (.int ds.length) := nr (by with_unfolding_all rfl)
theorem v_lenT {ds : List D} : oLen (.tup ds) = some (.int ds.length) := nr (by with_unfolding_all rfl)
theorem v_lenZ {ns : List Int} : oLen (.scr ns) = some (.int ns.length) := nr (by with_unfolding_all rfl)
theorem v_abs {i : Int} : oAbs [.int i] = some (.int (if i < 0 then -i else i)) := nr (by with_unfolding_all rfl)
theorem v_max {i j : Int} : oMax2 [.int i, .int j] = some (.int (if j > i then j else i)) := nr (by with_unfolding_all rfl)
theorem v_min {i j : Int} : oMin2 [.int i, .int j] = some (.int (if j < i then j else i)) := nr (by with_unfolding_all rfl)
theorem v_neg {i : Int} : oNeg (.int i) = some (.int (-i)) := nr (by with_unfolding_all rfl)
theorem v_ixL {ds : List D} {i : Int} : oIx (.lst ds) (.int i) = atI ds i := nr (by with_unfolding_all rfl)
theorem v_ixT {ds : List D} {i : Int} : oIx (.tup ds) (.int i) = atI ds i := nr (by with_unfolding_all rfl)
theorem v_ixZ {ns : List Int} {i : Int} : oIx (.scr ns) (.int i) = (atI ns i).map .int := nr (by with_unfolding_all rfl)
theorem v_cutL {ds : List D} {l u : Option Int} : oCut (.lst ds) l u = some (.lst (cutG ds l u)) := nr (by with_unfolding_all rfl)
theorem v_cutT {ds : List D} {l u : Option Int} : oCut (.tup ds) l u = some (.tup (cutG ds l u)) := nr (by with_unfolding_all rfl)
theorem v_tupL {ds : List D} : oTuple (.lst ds) = some (.tup ds) := nr (by with_unfolding_all rfl)
theorem v_tupT {ds : List D} : oTuple (.tup ds) = some (.tup ds) := nr (by with_unfolding_all rfl)
theorem v_lstL {ds : List D} : oList (.lst ds) = some (.lst ds) := nr (by with_unfolding_all rfl)
theorem v_lstT {ds : List D} : oList (.tup ds) = some (.lst ds) := nr (by with_unfolding_all rfl)
theorem v_mod {i j : Int} (h : 0 < j) : oMod (.int i) (.int j) = some (.int (i % j)) := by show (if decide (0 < j) = true then _ else _) = _; rw [if_pos (by simpa using h)]
theorem log2_lt {n : Nat} {k : Nat} (h0 : 0 < k) (h : n < 2 ^ k) : n.log2 < k := PySem.Flt.log2_lt_of h0 h
theorem v_div {i j : Int} (h : 0 < j) (h2 : j < 2 ^ 64) : oDiv (.int i) (.int j) = some (.int (i / j)) := by
  show (if decide (0 < j ∧ j.natAbs.log2 < 9000) = true then _ else _) = _
  have : j.natAbs.log2 < 64 := log2_lt (by decide) (by omega)
  rw [if_pos (by simp; omega)]
theorem v_mul {i j : Int} (h : -(2 ^ 64) < i) (h1 : i < 2 ^ 64) (h2 : -(2 ^ 64) < j) (h3 : j < 2 ^ 64) : oMul (.int i) (.int j) = some (.int (i * j)) := by
  show (if decide (i.natAbs.log2 + j.natAbs.log2 < 1000000) = true then _ else _) = _
  have a : i.natAbs.log2 < 64 := log2_lt (by decide) (by omega)
  have b : j.natAbs.log2 < 64 := log2_lt (by decide) (by omega)
  rw [if_pos (by simp; omega)]
theorem v_shl {i j : Int} (h : -(2 ^ 64) < i) (h1 : i < 2 ^ 64) (h2 : 0 ≤ j) (h3 : j ≤ 1000000) : oShl (.int i) (.int j) = some (.int (i * 2 ^ j.toNat)) := by
  show (if decide (0 ≤ j ∧ j ≤ 1000000 ∧ i.natAbs < 2 ^ 64) = true then _ else _) = _
  rw [if_pos (by simp only [decide_eq_true_eq]; omega)]
theorem v_pow {i j : Int} (h : -(2 ^ 64) < i) (h1 : i < 2 ^ 64) (h2 : 0 ≤ j) (h3 : j ≤ 1000000) : oPow (.int i) (.int j) = some (.int (i ^ j.toNat)) := by
  show (if decide (0 ≤ j ∧ j ≤ 1000000 ∧ i.natAbs < 2 ^ 64) = true then _ else _) = _
  rw [if_pos (by simp only [decide_eq_true_eq]; omega)]
theorem v_shr {i j : Int} (h2 : 0 ≤ j) : oShr (.int i) (.int j) = some (.int (i / 2 ^ j.toNat)) := by
  show (if decide (0 ≤ j) = true then _ else _) = _
  rw [if_pos (by simpa using h2)]
theorem v_addT {a b : List D} (h : a.length + b.length ≤ sizeLine) : oAdd (.tup a) (.tup b) = some (.tup (a ++ b)) := by show (if _ then _ else _) = _; rw [if_pos h]
theorem v_addL {a b : List D} (h : a.length + b.length ≤ sizeLine) : oAdd (.lst a) (.lst b) = some (.lst (a ++ b)) := by show (if _ then _ else _) = _; rw [if_pos h]
theorem v_isN {d : D} : oIsNone d .non = some (.bl (isNonD d)) := nr (by cases d <;> with_unfolding_all rfl)
theorem v_isNotN {d : D} : oIsNot d .non = some (.bl (!isNonD d)) := nr (by cases d <;> with_unfolding_all rfl)
theorem v_isB {a b : Bool} : oIsNone (.bl a) (.bl b) = some (.bl (decide (a = b))) := nr (by with_unfolding_all rfl)
theorem v_isNotB {a b : Bool} : oIsNot (.bl a) (.bl b) = some (.bl (!decide (a = b))) := nr (by with_unfolding_all rfl)
theorem v_inst {x : D} {a b : String} (h : tyName x = some a) (hb : tyOk b = true) : oIsInst [x, .ty b] = some (.bl (subTy a b)) := by
  show (match tyName x with | some a => if tyOk b then some (D.bl (subTy a b)) else none | none => none) = _
  rw [h]; simp only [hb, if_true]
theorem tr_bl {b : Bool} : truth (.bl b) = some b := nr (by with_unfolding_all rfl)
theorem tr_int {i : Int} : truth (.int i) = some (i != 0) := nr (by with_unfolding_all rfl)
theorem tr_lst {ds : List D} : truth (.lst ds) = some (!ds.isEmpty) := nr (by with_unfolding_all rfl)
theorem tr_tup {ds : List D} : truth (.tup ds) = some (!ds.isEmpty) := nr (by with_unfolding_all rfl)
theorem tr_non : truth .non = some false := nr (by with_unfolding_all rfl)

/-! ### loops -/
theorem forD_nil {mg : MG} {b : MS} {ρ : Env} {s : Sto} {Q : Out → Sto → Prop} : Ok (forD mg b [] ρ s) Q = Q (.nx ρ) s := nr (by with_unfolding_all rfl)
def KForT (mg : MG) (b : MS) (ds : List D) (Q : Out → Sto → Prop) : Out → Sto → Prop := fun o s => match o with
  | .nx ρ => Ok (forD mg b ds ρ s) Q
  | .ct ρ => Ok (forD mg b ds ρ s) Q
  | .bk ρ => Q (.nx ρ) s
  | .rt d => Q (.rt d) s
theorem forD_cons {mg : MG} {b : MS} {d : D} {ds : List D} {ρ : Env} {s : Sto} {Q : Out → Sto → Prop} : Ok (forD mg b (d :: ds) ρ s) Q = OkO (mg d ρ) fun ρ1 => Ok (b ρ1 s) (KForT mg b ds Q) := by
  show Ok (match mg d ρ with | none => Res.no | some ρ1 => _) Q = _
  cases mg d ρ with
  | none => with_unfolding_all rfl
  | some ρ1 =>
    show Ok ((b ρ1 s).bind _) Q = _
    rw [ok_bind]
    rw [oko_some]
    congr
    funext o s1
    cases o <;> with_unfolding_all rfl
/-- a loop by an invariant over what is still to come -/
theorem for_inv {mg : MG} {b : MS} {Q : Out → Sto → Prop} (Inv : List D → Env → Sto → Prop) (hd : ∀ ρ s, Inv [] ρ s → Q (.nx ρ) s)
    (hs : ∀ d ds ρ s, Inv (d :: ds) ρ s → OkO (mg d ρ) fun ρ1 => Ok (b ρ1 s) fun o s => match o with
      | .nx ρ => Inv ds ρ s
      | .ct ρ => Inv ds ρ s
      | .bk ρ => Q (.nx ρ) s
      | .rt d => Q (.rt d) s) : ∀ (ds : List D) (ρ : Env) (s : Sto), Inv ds ρ s → Ok (forD mg b ds ρ s) Q
  | [], ρ, s, h => by rw [forD_nil]; exact hd ρ s h
  | d :: ds, ρ, s, h => by
    rw [forD_cons]
    have := hs d ds ρ s h
    cases q : mg d ρ with
    | none => rw [q, oko_none] at this; exact this.elim
    | some ρ1 =>
      rw [q, oko_some] at this
      rw [oko_some]
      refine Ok.mono this fun o s1 ho => ?_
      cases o with
      | nx ρ => exact for_inv Inv hd hs ds ρ s1 ho
      | ct ρ => exact for_inv Inv hd hs ds ρ s1 ho
      | bk ρ => exact ho
      | rt d => exact ho
/-- a comprehension by an invariant over what is still to come and what has come -/
theorem comp_inv {mg : MG} {mt : MT} {me : ME} {ρ : Env} (Inv : List D → List D → Sto → Prop)
    (hs : ∀ d ds ys s, Inv (d :: ds) ys s → OkO (mg d ρ) fun ρ1 => Ok (mt ρ1 s) fun b s1 => if b = true then Ok (me ρ1 s1) fun y s2 => Inv ds (ys ++ [y]) s2 else Inv ds ys s1) :
    ∀ (ds ys : List D) (s : Sto), Inv ds ys s → Ok (compL mg mt me ρ ds s) fun zs s => Inv [] (ys ++ zs) s
  | [], ys, s, h => by unfold compL; rw [ok_ok, List.append_nil]; exact h
  | d :: ds, ys, s, h => by
    have h1 := hs d ds ys s h
    unfold compL
    cases q : mg d ρ with
    | none => rw [q, oko_none] at h1; exact h1.elim
    | some ρ1 =>
      rw [q, oko_some] at h1
      simp only
      obtain ⟨b, s1, e1, h2⟩ := Ok.get (show Ok (mt ρ1 s) _ from h1)
      rw [e1]
      simp only [Res.nox, Res.bind]
      cases b with
      | false =>
        simp only [Bool.false_eq_true, if_false] at h2 ⊢
        exact comp_inv Inv hs ds ys s1 h2
      | true =>
        simp only [if_true] at h2 ⊢
        obtain ⟨y, s2, e2, h3⟩ := Ok.get h2
        rw [e2]
        simp only
        have := comp_inv Inv hs ds (ys ++ [y]) s2 h3
        obtain ⟨zs, s3, e3, h4⟩ := Ok.get this
        rw [e3]
        simp only [Res.bind]
        rw [ok_ok]
        rw [List.append_assoc] at h4
        exact h4
/-- a comprehension of plain parts -/
theorem comp_map {mg : MG} {mt : MT} {me : ME} {ρ : Env} {s : Sto} (f : D → Option D) : ∀ (ds : List D), (∀ d ∈ ds, OkO (mg d ρ) fun ρ1 => Ok (mt ρ1 s) fun b s1 => s1 = s ∧ if b = true then Ok (me ρ1 s) fun y s2 => s2 = s ∧ f d = some y else f d = none) →
    compL mg mt me ρ ds s = .ok (ds.filterMap f) s
  | [], _ => rfl
  | d :: ds, h => by
    have h1 := h d List.mem_cons_self
    have ih := comp_map f ds fun e he => h e (List.mem_cons_of_mem _ he)
    unfold compL
    cases q : mg d ρ with
    | none => rw [q, oko_none] at h1; exact h1.elim
    | some ρ1 =>
      rw [q, oko_some] at h1
      simp only
      obtain ⟨b, s1, e1, e2, h2⟩ := Ok.get (show Ok (mt ρ1 s) _ from h1)
      subst e2
      rw [e1]
      simp only [Res.nox, Res.bind]
      cases b with
      | false =>
        simp only [Bool.false_eq_true, if_false] at h2 ⊢
        rw [ih, List.filterMap_cons_none h2]
      | true =>
        simp only [if_true] at h2 ⊢
        obtain ⟨y, s2, e3, e4, h3⟩ := Ok.get h2
        subst e4
        rw [e3]
        simp only
        rw [ih, List.filterMap_cons_some h3]
end M
/-! P2: more reckoning; draws. -/
namespace M
open PySem PySem.Spec PyProof.Rows L2
section
variable {α β : Type} {Q : α → Sto → Prop} {QE : D → Sto → Prop} {QA : List D → Sto → Prop} {QT : Bool → Sto → Prop} {QS : Out → Sto → Prop} {ρ : Env} {s : Sto}
def ge (ρ : Env) (i : Nat) (P : D → Prop) : Prop := match ρ[i]? with
  | some (some x) => P x
  | _ => False
theorem ge_0 {x : D} {P : D → Prop} : ge (some x :: ρ) 0 P = P x := nr (by with_unfolding_all rfl)
theorem ge_S {a : Option D} {i : Nat} {P : D → Prop} : ge (a :: ρ) (i + 1) P = ge ρ i P := nr (by with_unfolding_all rfl)
theorem ok_sAug1 {i : Nat} {f : D → D → Option D} {m : ME} : Ok (sAug i f m ρ s) QS = ge ρ i fun x => Ok (m ρ s) (KAug i f x ρ QS) := by
  cases h : ρ[i]? with
  | none => unfold sAug ge; rw [h]; with_unfolding_all rfl
  | some o =>
    cases o with
    | none => unfold sAug ge; rw [h]; with_unfolding_all rfl
    | some x => unfold ge; rw [h]; exact ok_sAug h
def KApp1 (i : Nat) (m : ME) (ρ : Env) (s : Sto) (Q : Out → Sto → Prop) : D → Prop := fun x => match x with
  | .lst ds => Ok (m ρ s) (KApp i ds ρ Q)
  | _ => False
theorem kApp1 {i : Nat} {m : ME} {ds : List D} : KApp1 i m ρ s QS (.lst ds) = Ok (m ρ s) (KApp i ds ρ QS) := nr (by with_unfolding_all rfl)
theorem ok_sApp1 {i : Nat} {m : ME} : Ok (sApp i m ρ s) QS = ge ρ i (KApp1 i m ρ s QS) := by
  cases h : ρ[i]? with
  | none => unfold sApp ge; rw [h]; with_unfolding_all rfl
  | some o =>
    cases o with
    | none => unfold sApp ge; rw [h]; with_unfolding_all rfl
    | some x =>
      unfold ge; rw [h]
      cases x with
      | lst ds => exact ok_sApp h
      | _ => unfold sApp; rw [h]; with_unfolding_all rfl
def KDisp (ks : List Key) (Q : D → Sto → Prop) : List D → Sto → Prop := fun ds s => Q (.ref s.length) (s ++ [.dk (ks.zip ds)])
theorem ok_eDisp {ks : List Key} {ms : List ME} : Ok (eDisp ks ms ρ s) QE = Ok (evs ms ρ s) (KDisp ks QE) := by unfold eDisp; rw [ok_bind]; with_unfolding_all rfl
theorem kDisp {ks : List Key} {ds : List D} : KDisp ks QE ds s = QE (.ref s.length) (s ++ [.dk (ks.zip ds)]) := nr (by with_unfolding_all rfl)
theorem env0_go {n : Nat} {ds : List D} : env0 n ds = ds.map some ++ List.replicate (n - ds.length) none := nr (by with_unfolding_all rfl)
theorem g_N {i : Nat} {d : D} : gN i d ρ = some (ρ.set i (some d)) := nr (by with_unfolding_all rfl)
theorem g_T {gs : MGs} {ds : List D} : gT gs (.tup ds) ρ = gs ds ρ := nr (by with_unfolding_all rfl)
theorem g_sC {a : MG} {r : MGs} {d : D} {ds : List D} : gsC a r (d :: ds) ρ = (a d ρ).bind (r ds) := nr (by with_unfolding_all rfl)
theorem g_sN : gsN [] ρ = some ρ := nr (by with_unfolding_all rfl)
theorem wipe0 : wipeE ρ [] = ρ := nr (by with_unfolding_all rfl)
theorem wipeS {v : Nat} {vs : List Nat} : wipeE ρ (v :: vs) = (wipeE ρ vs).set v none := nr (by with_unfolding_all rfl)
end
/-! ### loops by invariants -/
def KIt (I : Env → Sto → Prop) (Q : Out → Sto → Prop) : Out → Sto → Prop := fun o s => match o with
  | .nx ρ => I ρ s
  | .ct ρ => I ρ s
  | .bk ρ => Q (.nx ρ) s
  | .rt d => Q (.rt d) s
section
variable {I : Env → Sto → Prop} {QS : Out → Sto → Prop} {ρ : Env} {s : Sto} {d : D}
theorem kIt_nx : KIt I QS (.nx ρ) s = I ρ s := nr (by with_unfolding_all rfl)
theorem kIt_ct : KIt I QS (.ct ρ) s = I ρ s := nr (by with_unfolding_all rfl)
theorem kIt_bk : KIt I QS (.bk ρ) s = QS (.nx ρ) s := nr (by with_unfolding_all rfl)
theorem kIt_rt : KIt I QS (.rt d) s = QS (.rt d) s := nr (by with_unfolding_all rfl)
end
theorem for_it {mg : MG} {b : MS} {Q : Out → Sto → Prop} (Inv : List D → Env → Sto → Prop) {ds : List D} {ρ : Env} {s : Sto} (h : Inv ds ρ s)
    (hs : ∀ d ds ρ s, Inv (d :: ds) ρ s → OkO (mg d ρ) fun ρ1 => Ok (b ρ1 s) (KIt (Inv ds) Q)) (hd : ∀ ρ s, Inv [] ρ s → Q (.nx ρ) s) : Ok (forD mg b ds ρ s) Q := by
  refine for_inv Inv hd (fun d ds ρ s h => ?_) ds ρ s h
  have := hs d ds ρ s h
  cases q : mg d ρ with
  | none => rw [q, oko_none] at this; exact this.elim
  | some ρ1 =>
    rw [q, oko_some] at this
    rw [oko_some]
    refine Ok.mono (show Ok _ _ from this) fun o s1 ho => ?_
    cases o <;> exact ho
theorem rngD_nil {i : Int} : rngD i 0 = [] := nr (by with_unfolding_all rfl)
theorem rngD_cons {i : Int} {n : Nat} : rngD i (n + 1) = .int i :: rngD (i + 1) n := by
  unfold rngD
  rw [List.range_succ_eq_map, List.map_cons, List.map_map]
  refine congr (congrArg _ (by simp)) (List.map_congr_left fun j _ => ?_)
  simp only [Function.comp]
  congr 1
  omega
/-- a loop over a range, by what holds ahead of each round -/
theorem for_rng {mg : MG} {b : MS} {Q : Out → Sto → Prop} (I : Nat → Env → Sto → Prop) {lo : Int} {n : Nat} {ρ : Env} {s : Sto} (h : I 0 ρ s)
    (hs : ∀ i ρ s, i < n → I i ρ s → OkO (mg (.int (lo + (i : Nat))) ρ) fun ρ1 => Ok (b ρ1 s) (KIt (I (i + 1)) Q)) (hd : ∀ ρ s, I n ρ s → Q (.nx ρ) s) : Ok (forD mg b (rngD lo n) ρ s) Q := by
  refine for_it (fun ds ρ s => ∃ i m, ds = rngD (lo + (i : Nat)) m ∧ i + m = n ∧ I i ρ s) ⟨0, n, by simp, by omega, h⟩ (fun d ds ρ s h => ?_) fun ρ s h => ?_
  · obtain ⟨i, m, e, he, hi⟩ := h
    cases m with
    | zero => cases e
    | succ m =>
      rw [rngD_cons] at e
      cases e
      have := hs i ρ s (by omega) hi
      cases q : mg (.int (lo + (i : Nat))) ρ with
      | none => rw [q, oko_none] at this; exact this.elim
      | some ρ1 =>
        rw [q, oko_some] at this
        rw [oko_some]
        refine Ok.mono (show Ok _ _ from this) fun o s1 ho => ?_
        cases o with
        | nx ρ => exact ⟨i + 1, m, by congr 1; omega, by omega, ho⟩
        | ct ρ => exact ⟨i + 1, m, by congr 1; omega, by omega, ho⟩
        | bk ρ => exact ho
        | rt d => exact ho
  · obtain ⟨i, m, e, he, hi⟩ := h
    cases m with
    | zero => exact hd ρ s (by rwa [show n = i by omega])
    | succ m => rw [rngD_cons] at e; cases e
/-! ### comprehensions -/
theorem comp_m {mg : MG} {me : ME} {ρ : Env} {s : Sto} {ds : List D} (f : D → D) (h : ∀ d ∈ ds, OkO (mg d ρ) fun ρ1 => Ok (me ρ1 s) fun y s2 => y = f d ∧ s2 = s) :
    compL mg tYesM me ρ ds s = .ok (ds.map f) s := by
  rw [comp_map (fun d => some (f d)) ds fun d hd => ?_]
  · rw [List.filterMap_eq_map']
  · have := h d hd
    cases q : mg d ρ with
    | none => rw [q, oko_none] at this; exact this.elim
    | some ρ1 =>
      rw [q, oko_some] at this
      rw [oko_some]
      unfold tYesM
      rw [ok_ok]
      refine ⟨rfl, ?_⟩
      simp only [if_true]
      exact Ok.mono this fun y s2 e => ⟨e.2, by rw [e.1]⟩
theorem comp_rg {mg : MG} {me : ME} {ρ : Env} {s : Sto} {lo : Int} {n : Nat} (f : Int → D) (h : ∀ i : Nat, i < n → OkO (mg (.int (lo + (i : Nat))) ρ) fun ρ1 => Ok (me ρ1 s) fun y s2 => y = f (lo + (i : Nat)) ∧ s2 = s) :
    compL mg tYesM me ρ (rngD lo n) s = .ok ((List.range n).map fun i => f (lo + (i : Nat))) s := by
  rw [comp_m (fun d => match d with | .int i => f i | _ => .non) fun d hd => ?_]
  · unfold rngD
    rw [List.map_map]
    rfl
  · unfold rngD at hd
    obtain ⟨i, hi, rfl⟩ := List.mem_map.mp hd
    exact h i (List.mem_range.mp hi)
/-- what is kept of a list -/
theorem comp_f {mg : MG} {mt : MT} {me : ME} {ρ : Env} {s : Sto} {ds : List D} (p : D → Bool) (f : D → D) (h : ∀ d ∈ ds, OkO (mg d ρ) fun ρ1 => Ok (mt ρ1 s) fun b s1 => s1 = s ∧ b = p d ∧ (p d = true → Ok (me ρ1 s) fun y s2 => y = f d ∧ s2 = s)) :
    compL mg mt me ρ ds s = .ok ((ds.filter p).map f) s := by
  rw [comp_map (fun d => if p d = true then some (f d) else none) ds fun d hd => ?_]
  · congr 1
    induction ds with
    | nil => rfl
    | cons d ds ih =>
      have ih := ih fun e he => h e (List.mem_cons_of_mem _ he)
      by_cases c : p d = true
      · rw [List.filterMap_cons_some (by rw [if_pos c]), List.filter_cons_of_pos c, List.map_cons, ih]
      · rw [List.filterMap_cons_none (by rw [if_neg c]), List.filter_cons_of_neg c, ih]
  · have := h d hd
    cases q : mg d ρ with
    | none => rw [q, oko_none] at this; exact this.elim
    | some ρ1 =>
      rw [q, oko_some] at this
      rw [oko_some]
      refine Ok.mono (show Ok _ _ from this) fun b s1 e => ?_
      obtain ⟨e1, e2, e3⟩ := e
      subst e2
      refine ⟨e1, ?_⟩
      by_cases c : p d = true
      · rw [if_pos c, if_pos c]
        exact Ok.mono (e3 c) fun y s2 e => ⟨e.2, by rw [e.1]⟩
      · rw [if_neg c, if_neg c]

/-! ### the dict of draws -/
def Sd (xs : List Int) (a : Nat) (t : Sto) : Sto := .dk [(.inr "draws", .lst (xs.map .int)), (.inr "at", .int a)] :: t
def nxt (xs : List Int) (a : Nat) (m : Int) : Int := if a < xs.length then xs.getD a 0 % m else 0
theorem nxt_0 {xs : List Int} {a : Nat} {m : Int} (h : 0 < m) : 0 ≤ nxt xs a m := by
  unfold nxt; split
  · exact Int.emod_nonneg _ (by omega)
  · exact Int.le_refl 0
theorem nxt_lt {xs : List Int} {a : Nat} {m : Int} (h : 0 < m) : nxt xs a m < m := by
  unfold nxt; split
  · exact Int.emod_lt_of_pos _ h
  · exact h
theorem dg_draws {xs : List Int} {a : Nat} {t : Sto} : dkGet (Sd xs a t) (.ref 0) (.str "draws") = some (.lst (xs.map .int)) := nr rfl
theorem dg_at {xs : List Int} {a : Nat} {t : Sto} : dkGet (Sd xs a t) (.ref 0) (.str "at") = some (.int a) := nr rfl
def NEXT : MS :=
  (sSeq (sDkAug (eV 0) (eC (.str "at")) oAddI (eC (.int 1)))
    (sSeq (sIf (tOfE (e2 oGt (eDGet (eV 0) (eC (.str "at"))) (e1 oLen (eDGet (eV 0) (eC (.str "draws")))))) (sRet (eC (.int 0))) sNext)
    (sRet (e2 oMod (eB oInt [(e2 oIx (eDGet (eV 0) (eC (.str "draws"))) (e2 oSub (eDGet (eV 0) (eC (.str "at"))) (eC (.int 1))))]) (eV 1)))))
theorem aug_at {xs : List Int} {a : Nat} {t : Sto} {d : Option D} {Q : Out → Sto → Prop} : Ok (sDkAug (eV 0) (eC (.str "at")) oAddI (eC (.int 1)) [some (.ref 0), d] (Sd xs a t)) Q = Q (.nx [some (.ref 0), d]) (Sd xs (a + 1) t) := nr (by with_unfolding_all rfl)
theorem atI_nat {α : Type} {xs : List α} {i : Nat} (h : i < xs.length) : atI xs (i : Int) = some xs[i] := by
  unfold atI ixN
  rw [if_pos (by omega), if_pos (by omega)]
  simp [h]
theorem next_eq {xs : List Int} {a : Nat} {t : Sto} {m : Int} (h : 0 < m) : fnM 2 NEXT [.ref 0, .int m] (Sd xs a t) = .ok (.int (nxt xs a m)) (Sd xs (a + 1) t) := by
  apply Ok.eq
  unfold NEXT
  simp only [M.ok_ok, M.ok_no, M.oko_some, M.ok_eC, M.ok_eV0, M.ok_eVs, M.ok_e1, M.k1, M.ok_e2, M.k2a, M.k2, M.ok_evs0, M.ok_evs, M.kA, M.ok_eTup, M.ok_eLst, M.ok_eB, M.ok_eCall, M.kTup, M.kLst, M.kB, M.kCall, M.ok_eIf, M.kIfE, M.ok_eAnd, M.kAnd, M.ok_eOr, M.kOr, M.ok_eNot, M.kNotE, M.ok_eChain, M.kCh, M.kCh2, M.ok_tOfE, M.kTo, M.ok_tTru, M.kTru, M.ok_tAnd, M.ok_tOr, M.ok_tNot, M.kTAnd, M.kTOr, M.kTNot, M.ok_tYes, M.ok_pNo, M.ok_pSome, M.kPs, M.ok_eCut, M.kCut, M.kCut1, M.kCut2, M.ok_eDGet, M.kDg, M.kDg2, M.ok_sSeq, M.kSeq_nx, M.kSeq_rt, M.kSeq_bk, M.kSeq_ct, M.ok_sSet, M.kSet, M.ok_sAsg, M.kAsg, M.ok_sPar, M.kPar, M.ok_sDrop, M.kDrop, M.ok_sRet, M.kRet, M.ok_sRetN, M.ok_sNext, M.ok_sBrk, M.ok_sCnt, M.ok_sIf, M.kIf, M.kAug, M.kApp, M.ok_sFor, M.kFor, M.ok_fnM, M.kFn_rt, M.kFn_nx, M.ok_iS, M.kIS_lst, M.kIS_tup, M.ok_iR1, M.kR1, M.ok_iR2, M.kR2, M.ok_eLstRg, M.ok_eTupRg, M.kRg, M.ok_rg1, M.kRg1, M.ok_rg2, M.kRg2, M.kRg2b, M.ok_eM1, M.kM1, M.kM1b, M.ok_eComp, M.kComp, M.kComp1, M.ok_eComp2, M.kCompC, M.kCompB, M.ok_eDisp, M.kDisp, M.ok_sAug1, M.ok_sApp1, M.kApp1, M.kIt_nx, M.kIt_ct, M.kIt_bk, M.kIt_rt, M.v_sub, M.v_addI, M.v_addA, M.v_subA, M.v_lt, M.v_le, M.v_gt, M.v_ge, M.v_int, M.v_lenL, M.v_lenT, M.v_lenZ, M.v_abs, M.v_max, M.v_min, M.v_neg, M.v_ixL, M.v_ixT, M.v_ixZ, M.v_cutL, M.v_cutT, M.v_tupL, M.v_tupT, M.v_lstL, M.v_lstT, M.tr_bl, M.tr_int, M.tr_lst, M.tr_tup, M.tr_non, M.env0_go, M.g_N, M.g_T, M.g_sC, M.g_sN, M.wipe0, M.wipeS, M.ge_0, M.ge_S, List.set_cons_zero, List.set_cons_succ, List.map_cons, List.map_nil, List.cons_append, List.nil_append, List.length_cons, List.length_nil, Nat.reduceAdd, Nat.reduceSub, List.replicate_succ, List.replicate_zero, Option.bind_some, String.reduceBEq, Int.reduceBEq, Bool.or_self, if_true, if_false, Bool.false_eq_true, Bool.not_true, Bool.not_false, true_and, and_true, decide_true, decide_false, Option.map_some, List.all_cons, List.all_nil, List.any_cons, List.any_nil, Bool.and_self, Bool.or_false, Bool.false_or, Bool.or_true, Bool.true_or, Bool.and_true, Bool.true_and, Bool.and_false, Bool.false_and, beq_self_eq_true, bne_self_eq_false, aug_at, dg_draws, dg_at, List.length_map, v_mod h]
  by_cases c : a < xs.length
  · have e : ¬ ((xs.length : Int) < ((a + 1 : Nat) : Int)) := by omega
    have e2 : ((a + 1 : Nat) : Int) - 1 = (a : Nat) := by omega
    simp only [M.ok_ok, M.ok_no, M.oko_some, M.ok_eC, M.ok_eV0, M.ok_eVs, M.ok_e1, M.k1, M.ok_e2, M.k2a, M.k2, M.ok_evs0, M.ok_evs, M.kA, M.ok_eTup, M.ok_eLst, M.ok_eB, M.ok_eCall, M.kTup, M.kLst, M.kB, M.kCall, M.ok_eIf, M.kIfE, M.ok_eAnd, M.kAnd, M.ok_eOr, M.kOr, M.ok_eNot, M.kNotE, M.ok_eChain, M.kCh, M.kCh2, M.ok_tOfE, M.kTo, M.ok_tTru, M.kTru, M.ok_tAnd, M.ok_tOr, M.ok_tNot, M.kTAnd, M.kTOr, M.kTNot, M.ok_tYes, M.ok_pNo, M.ok_pSome, M.kPs, M.ok_eCut, M.kCut, M.kCut1, M.kCut2, M.ok_eDGet, M.kDg, M.kDg2, M.ok_sSeq, M.kSeq_nx, M.kSeq_rt, M.kSeq_bk, M.kSeq_ct, M.ok_sSet, M.kSet, M.ok_sAsg, M.kAsg, M.ok_sPar, M.kPar, M.ok_sDrop, M.kDrop, M.ok_sRet, M.kRet, M.ok_sRetN, M.ok_sNext, M.ok_sBrk, M.ok_sCnt, M.ok_sIf, M.kIf, M.kAug, M.kApp, M.ok_sFor, M.kFor, M.ok_fnM, M.kFn_rt, M.kFn_nx, M.ok_iS, M.kIS_lst, M.kIS_tup, M.ok_iR1, M.kR1, M.ok_iR2, M.kR2, M.ok_eLstRg, M.ok_eTupRg, M.kRg, M.ok_rg1, M.kRg1, M.ok_rg2, M.kRg2, M.kRg2b, M.ok_eM1, M.kM1, M.kM1b, M.ok_eComp, M.kComp, M.kComp1, M.ok_eComp2, M.kCompC, M.kCompB, M.ok_eDisp, M.kDisp, M.ok_sAug1, M.ok_sApp1, M.kApp1, M.kIt_nx, M.kIt_ct, M.kIt_bk, M.kIt_rt, M.v_sub, M.v_addI, M.v_addA, M.v_subA, M.v_lt, M.v_le, M.v_gt, M.v_ge, M.v_int, M.v_lenL, M.v_lenT, M.v_lenZ, M.v_abs, M.v_max, M.v_min, M.v_neg, M.v_ixL, M.v_ixT, M.v_ixZ, M.v_cutL, M.v_cutT, M.v_tupL, M.v_tupT, M.v_lstL, M.v_lstT, M.tr_bl, M.tr_int, M.tr_lst, M.tr_tup, M.tr_non, M.env0_go, M.g_N, M.g_T, M.g_sC, M.g_sN, M.wipe0, M.wipeS, M.ge_0, M.ge_S, List.set_cons_zero, List.set_cons_succ, List.map_cons, List.map_nil, List.cons_append, List.nil_append, List.length_cons, List.length_nil, Nat.reduceAdd, Nat.reduceSub, List.replicate_succ, List.replicate_zero, Option.bind_some, String.reduceBEq, Int.reduceBEq, Bool.or_self, if_true, if_false, Bool.false_eq_true, Bool.not_true, Bool.not_false, true_and, and_true, decide_true, decide_false, Option.map_some, List.all_cons, List.all_nil, List.any_cons, List.any_nil, Bool.and_self, Bool.or_false, Bool.false_or, Bool.or_true, Bool.true_or, Bool.and_true, Bool.true_and, Bool.and_false, Bool.false_and, beq_self_eq_true, bne_self_eq_false, e, e2, atI_nat (show a < (xs.map D.int).length by rw [List.length_map]; exact c), List.getElem_map, v_mod h]
    congr 1
    unfold nxt
    rw [if_pos c, List.getD_eq_getElem?_getD, List.getElem?_eq_getElem c, Option.getD_some]
  · have e : ((xs.length : Int) < ((a + 1 : Nat) : Int)) := by omega
    simp only [M.ok_ok, M.ok_no, M.oko_some, M.ok_eC, M.ok_eV0, M.ok_eVs, M.ok_e1, M.k1, M.ok_e2, M.k2a, M.k2, M.ok_evs0, M.ok_evs, M.kA, M.ok_eTup, M.ok_eLst, M.ok_eB, M.ok_eCall, M.kTup, M.kLst, M.kB, M.kCall, M.ok_eIf, M.kIfE, M.ok_eAnd, M.kAnd, M.ok_eOr, M.kOr, M.ok_eNot, M.kNotE, M.ok_eChain, M.kCh, M.kCh2, M.ok_tOfE, M.kTo, M.ok_tTru, M.kTru, M.ok_tAnd, M.ok_tOr, M.ok_tNot, M.kTAnd, M.kTOr, M.kTNot, M.ok_tYes, M.ok_pNo, M.ok_pSome, M.kPs, M.ok_eCut, M.kCut, M.kCut1, M.kCut2, M.ok_eDGet, M.kDg, M.kDg2, M.ok_sSeq, M.kSeq_nx, M.kSeq_rt, M.kSeq_bk, M.kSeq_ct, M.ok_sSet, M.kSet, M.ok_sAsg, M.kAsg, M.ok_sPar, M.kPar, M.ok_sDrop, M.kDrop, M.ok_sRet, M.kRet, M.ok_sRetN, M.ok_sNext, M.ok_sBrk, M.ok_sCnt, M.ok_sIf, M.kIf, M.kAug, M.kApp, M.ok_sFor, M.kFor, M.ok_fnM, M.kFn_rt, M.kFn_nx, M.ok_iS, M.kIS_lst, M.kIS_tup, M.ok_iR1, M.kR1, M.ok_iR2, M.kR2, M.ok_eLstRg, M.ok_eTupRg, M.kRg, M.ok_rg1, M.kRg1, M.ok_rg2, M.kRg2, M.kRg2b, M.ok_eM1, M.kM1, M.kM1b, M.ok_eComp, M.kComp, M.kComp1, M.ok_eComp2, M.kCompC, M.kCompB, M.ok_eDisp, M.kDisp, M.ok_sAug1, M.ok_sApp1, M.kApp1, M.kIt_nx, M.kIt_ct, M.kIt_bk, M.kIt_rt, M.v_sub, M.v_addI, M.v_addA, M.v_subA, M.v_lt, M.v_le, M.v_gt, M.v_ge, M.v_int, M.v_lenL, M.v_lenT, M.v_lenZ, M.v_abs, M.v_max, M.v_min, M.v_neg, M.v_ixL, M.v_ixT, M.v_ixZ, M.v_cutL, M.v_cutT, M.v_tupL, M.v_tupT, M.v_lstL, M.v_lstT, M.tr_bl, M.tr_int, M.tr_lst, M.tr_tup, M.tr_non, M.env0_go, M.g_N, M.g_T, M.g_sC, M.g_sN, M.wipe0, M.wipeS, M.ge_0, M.ge_S, List.set_cons_zero, List.set_cons_succ, List.map_cons, List.map_nil, List.cons_append, List.nil_append, List.length_cons, List.length_nil, Nat.reduceAdd, Nat.reduceSub, List.replicate_succ, List.replicate_zero, Option.bind_some, String.reduceBEq, Int.reduceBEq, Bool.or_self, if_true, if_false, Bool.false_eq_true, Bool.not_true, Bool.not_false, true_and, and_true, decide_true, decide_false, Option.map_some, List.all_cons, List.all_nil, List.any_cons, List.any_nil, Bool.and_self, Bool.or_false, Bool.false_or, Bool.or_true, Bool.true_or, Bool.and_true, Bool.true_and, Bool.and_false, Bool.false_and, beq_self_eq_true, bne_self_eq_false, e]
    congr 1
    unfold nxt
    rw [if_neg c]

/-! ### the draws -/
def DRAWS : MS :=
  (sSeq (sSet 2 (eLst []))
    (sSeq (sSet 3 (eC (.int 7)))
    (sSeq (sFor (iR1 [(e1 oLen (eV 0))]) (gN 4) (sSeq (sSet 5 (eB oAbs [(eB oInt [(e2 oIx (eV 0) (eV 4))])]))
    (sSeq (sSet 3 (e2 oMod (eB oInt [(e2 oAdd (e2 oAdd (e2 oMul (eV 3) (eC (.int 48271))) (e2 oMod (eV 5) (eC (.int 1000003)))) (eV 4))]) (eC (.int 65537))))
    (sSeq (sSet 6 (eC (.int 0)))
    (sSeq (sIf (tOfE (e2 oGe (eV 5) (e2 oPow (eC (.int 10)) (eC (.int 18))))) (sSet 6 (eV 5)) (sSeq (sApp 2 (e2 oMod (eB oInt [(eV 5)]) (eC (.int 997))))
    (sApp 2 (e2 oMod (e2 oMod (eB oInt [(e2 oAdd (e2 oMul (eV 3) (eC (.int 69621))) (eC (.int 5)))]) (eC (.int 65521))) (eC (.int 997))))))
    (sFor (iR1 [(eC (.int 60))]) (gN 7) (sIf (tOfE (e2 oGt (eV 6) (eC (.int 0)))) (sSeq (sApp 2 (e2 oMod (eB oInt [(eV 6)]) (eC (.int 997))))
    (sSet 6 (e2 oDiv (eV 6) (eC (.int 997))))) sNext)))))))
    (sSeq (sFor (iR1 [(eV 1)]) (gN 4) (sSeq (sSet 3 (e2 oMod (eB oInt [(e2 oAdd (e2 oAdd (e2 oMul (eV 3) (eC (.int 16807))) (eV 4)) (eC (.int 1)))]) (eC (.int 65537))))
    (sApp 2 (e2 oMod (eB oInt [(eV 3)]) (eC (.int 997))))))
    (sRet (eCut (eV 2) pNo (pSome (eV 1))))))))
theorem cut_map {xs : List Int} {lo hi : Option Int} : cutG (xs.map D.int) lo hi = (cutG xs lo hi).map D.int := by
  unfold cutG
  rw [List.length_map, List.map_take, List.map_drop]
theorem map_snoc {xs : List Int} {i : Int} : xs.map D.int ++ [.int i] = (xs ++ [i]).map D.int := by rw [List.map_append]; rfl
theorem draws_ok {ns : List Int} {m : Nat} {s : Sto} (hn : ns.length ≤ 63) (hm : m ≤ 100000) : ∃ xs : List Int, fnM 8 DRAWS [.scr ns, .int m] s = .ok (.lst (xs.map .int)) s := by
  suffices h : Ok (fnM 8 DRAWS [.scr ns, .int m] s) fun v s' => ∃ xs : List Int, v = .lst (xs.map .int) ∧ s' = s by
    obtain ⟨v, s', e, xs, rfl, rfl⟩ := h.get
    exact ⟨xs, e⟩
  unfold DRAWS
  have sl : sizeLine = 16777216 := rfl
  simp only [M.ok_ok, M.ok_no, M.oko_some, M.ok_eC, M.ok_eV0, M.ok_eVs, M.ok_e1, M.k1, M.ok_e2, M.k2a, M.k2, M.ok_evs0, M.ok_evs, M.kA, M.ok_eTup, M.ok_eLst, M.ok_eB, M.ok_eCall, M.kTup, M.kLst, M.kB, M.kCall, M.ok_eIf, M.kIfE, M.ok_eAnd, M.kAnd, M.ok_eOr, M.kOr, M.ok_eNot, M.kNotE, M.ok_eChain, M.kCh, M.kCh2, M.ok_tOfE, M.kTo, M.ok_tTru, M.kTru, M.ok_tAnd, M.ok_tOr, M.ok_tNot, M.kTAnd, M.kTOr, M.kTNot, M.ok_tYes, M.ok_pNo, M.ok_pSome, M.kPs, M.ok_eCut, M.kCut, M.kCut1, M.kCut2, M.ok_eDGet, M.kDg, M.kDg2, M.ok_sSeq, M.kSeq_nx, M.kSeq_rt, M.kSeq_bk, M.kSeq_ct, M.ok_sSet, M.kSet, M.ok_sAsg, M.kAsg, M.ok_sPar, M.kPar, M.ok_sDrop, M.kDrop, M.ok_sRet, M.kRet, M.ok_sRetN, M.ok_sNext, M.ok_sBrk, M.ok_sCnt, M.ok_sIf, M.kIf, M.kAug, M.kApp, M.ok_sFor, M.kFor, M.ok_fnM, M.kFn_rt, M.kFn_nx, M.ok_iS, M.kIS_lst, M.kIS_tup, M.ok_iR1, M.kR1, M.ok_iR2, M.kR2, M.ok_eLstRg, M.ok_eTupRg, M.kRg, M.ok_rg1, M.kRg1, M.ok_rg2, M.kRg2, M.kRg2b, M.ok_eM1, M.kM1, M.kM1b, M.ok_eComp, M.kComp, M.kComp1, M.ok_eComp2, M.kCompC, M.kCompB, M.ok_eDisp, M.kDisp, M.ok_sAug1, M.ok_sApp1, M.kApp1, M.kIt_nx, M.kIt_ct, M.kIt_bk, M.kIt_rt, M.v_sub, M.v_addI, M.v_addA, M.v_subA, M.v_lt, M.v_le, M.v_gt, M.v_ge, M.v_int, M.v_lenL, M.v_lenT, M.v_lenZ, M.v_abs, M.v_max, M.v_min, M.v_neg, M.v_ixL, M.v_ixT, M.v_ixZ, M.v_cutL, M.v_cutT, M.v_tupL, M.v_tupT, M.v_lstL, M.v_lstT, M.tr_bl, M.tr_int, M.tr_lst, M.tr_tup, M.tr_non, M.env0_go, M.g_N, M.g_T, M.g_sC, M.g_sN, M.wipe0, M.wipeS, M.ge_0, M.ge_S, List.set_cons_zero, List.set_cons_succ, List.map_cons, List.map_nil, List.cons_append, List.nil_append, List.length_cons, List.length_nil, Nat.reduceAdd, Nat.reduceSub, List.replicate_succ, List.replicate_zero, Option.bind_some, String.reduceBEq, Int.reduceBEq, Bool.or_self, if_true, if_false, Bool.false_eq_true, Bool.not_true, Bool.not_false, true_and, and_true, decide_true, decide_false, Option.map_some, List.all_cons, List.all_nil, List.any_cons, List.any_nil, Bool.and_self, Bool.or_false, Bool.false_or, Bool.or_true, Bool.true_or, Bool.and_true, Bool.true_and, Bool.and_false, Bool.false_and, beq_self_eq_true, bne_self_eq_false]
  refine ⟨by omega, ?_⟩
  refine for_rng (fun i ρ s' => s' = s ∧ ∃ (xs : List Int) (x : Int) (o4 o5 o6 o7 : Option D), ρ = [some (.scr ns), some (.int m), some (.lst (xs.map .int)), some (.int x), o4, o5, o6, o7] ∧ 0 ≤ x ∧ x < 65537 ∧ xs.length ≤ 62 * i) ⟨rfl, [], 7, _, _, _, _, rfl, by omega, by omega, by simp⟩ ?_ ?_
  · rintro i ρ s' hi ⟨rfl, xs, x, o4, o5, o6, o7, rfl, h0, h1, h2⟩
    have hi' : i < ns.length := by omega
    have e0 : (0 : Int) + (i : Nat) = (i : Nat) := by omega
    generalize hc : (if ns[i] < 0 then -ns[i] else ns[i]) = c
    have hc0 : 0 ≤ c := by rw [← hc]; split <;> omega
    simp only [M.ok_ok, M.ok_no, M.oko_some, M.ok_eC, M.ok_eV0, M.ok_eVs, M.ok_e1, M.k1, M.ok_e2, M.k2a, M.k2, M.ok_evs0, M.ok_evs, M.kA, M.ok_eTup, M.ok_eLst, M.ok_eB, M.ok_eCall, M.kTup, M.kLst, M.kB, M.kCall, M.ok_eIf, M.kIfE, M.ok_eAnd, M.kAnd, M.ok_eOr, M.kOr, M.ok_eNot, M.kNotE, M.ok_eChain, M.kCh, M.kCh2, M.ok_tOfE, M.kTo, M.ok_tTru, M.kTru, M.ok_tAnd, M.ok_tOr, M.ok_tNot, M.kTAnd, M.kTOr, M.kTNot, M.ok_tYes, M.ok_pNo, M.ok_pSome, M.kPs, M.ok_eCut, M.kCut, M.kCut1, M.kCut2, M.ok_eDGet, M.kDg, M.kDg2, M.ok_sSeq, M.kSeq_nx, M.kSeq_rt, M.kSeq_bk, M.kSeq_ct, M.ok_sSet, M.kSet, M.ok_sAsg, M.kAsg, M.ok_sPar, M.kPar, M.ok_sDrop, M.kDrop, M.ok_sRet, M.kRet, M.ok_sRetN, M.ok_sNext, M.ok_sBrk, M.ok_sCnt, M.ok_sIf, M.kIf, M.kAug, M.kApp, M.ok_sFor, M.kFor, M.ok_fnM, M.kFn_rt, M.kFn_nx, M.ok_iS, M.kIS_lst, M.kIS_tup, M.ok_iR1, M.kR1, M.ok_iR2, M.kR2, M.ok_eLstRg, M.ok_eTupRg, M.kRg, M.ok_rg1, M.kRg1, M.ok_rg2, M.kRg2, M.kRg2b, M.ok_eM1, M.kM1, M.kM1b, M.ok_eComp, M.kComp, M.kComp1, M.ok_eComp2, M.kCompC, M.kCompB, M.ok_eDisp, M.kDisp, M.ok_sAug1, M.ok_sApp1, M.kApp1, M.kIt_nx, M.kIt_ct, M.kIt_bk, M.kIt_rt, M.v_sub, M.v_addI, M.v_addA, M.v_subA, M.v_lt, M.v_le, M.v_gt, M.v_ge, M.v_int, M.v_lenL, M.v_lenT, M.v_lenZ, M.v_abs, M.v_max, M.v_min, M.v_neg, M.v_ixL, M.v_ixT, M.v_ixZ, M.v_cutL, M.v_cutT, M.v_tupL, M.v_tupT, M.v_lstL, M.v_lstT, M.tr_bl, M.tr_int, M.tr_lst, M.tr_tup, M.tr_non, M.env0_go, M.g_N, M.g_T, M.g_sC, M.g_sN, M.wipe0, M.wipeS, M.ge_0, M.ge_S, List.set_cons_zero, List.set_cons_succ, List.map_cons, List.map_nil, List.cons_append, List.nil_append, List.length_cons, List.length_nil, Nat.reduceAdd, Nat.reduceSub, List.replicate_succ, List.replicate_zero, Option.bind_some, String.reduceBEq, Int.reduceBEq, Bool.or_self, if_true, if_false, Bool.false_eq_true, Bool.not_true, Bool.not_false, true_and, and_true, decide_true, decide_false, Option.map_some, List.all_cons, List.all_nil, List.any_cons, List.any_nil, Bool.and_self, Bool.or_false, Bool.false_or, Bool.or_true, Bool.true_or, Bool.and_true, Bool.true_and, Bool.and_false, Bool.false_and, beq_self_eq_true, bne_self_eq_false, e0, atI_nat hi', hc, v_mul (show (-(2 ^ 64) : Int) < x by omega) (show x < 2 ^ 64 by omega) (show (-(2 ^ 64) : Int) < 48271 by decide) (show (48271 : Int) < 2 ^ 64 by decide), v_mod (show (0 : Int) < 1000003 by decide), v_mod (show (0 : Int) < 65537 by decide), v_pow (show (-(2 ^ 64) : Int) < 10 by decide) (show (10 : Int) < 2 ^ 64 by decide) (show (0 : Int) ≤ 18 by decide) (show (18 : Int) ≤ 1000000 by decide)]
    generalize hy : (x * 48271 + c % 1000003 + (i : Nat)) % 65537 = y
    have hy0 : 0 ≤ y := by omega
    have hy1 : y < 65537 := by omega
    have mid : ∀ (zs : List Int) (r : Int), 0 ≤ r → ((r = 0 ∧ zs.length ≤ 62 * i + 2) ∨ zs.length ≤ 62 * i) → Ok (forD (gN 7) (sIf (tOfE (e2 oGt (eV 6) (eC (.int 0)))) (sSeq (sApp 2 (e2 oMod (eB oInt [(eV 6)]) (eC (.int 997)))) (sSet 6 (e2 oDiv (eV 6) (eC (.int 997))))) sNext) (rngD 0 (60 : Int).toNat)
        [some (.scr ns), some (.int m), some (.lst (zs.map .int)), some (.int y), some (.int i), some (.int c), some (.int r), o7] s')
        fun o s2 => s2 = s' ∧ ∃ (xs : List Int) (o5 o6 o7 : Option D), o = .nx [some (.scr ns), some (.int m), some (.lst (xs.map .int)), some (.int y), some (.int i), o5, o6, o7] ∧ xs.length ≤ 62 * (i + 1) := by
      intro zs r hr hz
      refine for_rng (fun j ρ s2 => s2 = s' ∧ ∃ (zs : List Int) (r : Int) (o7 : Option D), ρ = [some (.scr ns), some (.int m), some (.lst (zs.map .int)), some (.int y), some (.int i), some (.int c), some (.int r), o7] ∧ 0 ≤ r ∧ ((r = 0 ∧ zs.length ≤ 62 * (i + 1)) ∨ zs.length ≤ 62 * i + j)) ⟨rfl, zs, r, o7, rfl, hr, by omega⟩ ?_ ?_
      · rintro j ρ s2 hj ⟨rfl, zs, r, o7, rfl, h0, h1⟩
        have hj' : j < 60 := hj
        simp only [M.ok_ok, M.ok_no, M.oko_some, M.ok_eC, M.ok_eV0, M.ok_eVs, M.ok_e1, M.k1, M.ok_e2, M.k2a, M.k2, M.ok_evs0, M.ok_evs, M.kA, M.ok_eTup, M.ok_eLst, M.ok_eB, M.ok_eCall, M.kTup, M.kLst, M.kB, M.kCall, M.ok_eIf, M.kIfE, M.ok_eAnd, M.kAnd, M.ok_eOr, M.kOr, M.ok_eNot, M.kNotE, M.ok_eChain, M.kCh, M.kCh2, M.ok_tOfE, M.kTo, M.ok_tTru, M.kTru, M.ok_tAnd, M.ok_tOr, M.ok_tNot, M.kTAnd, M.kTOr, M.kTNot, M.ok_tYes, M.ok_pNo, M.ok_pSome, M.kPs, M.ok_eCut, M.kCut, M.kCut1, M.kCut2, M.ok_eDGet, M.kDg, M.kDg2, M.ok_sSeq, M.kSeq_nx, M.kSeq_rt, M.kSeq_bk, M.kSeq_ct, M.ok_sSet, M.kSet, M.ok_sAsg, M.kAsg, M.ok_sPar, M.kPar, M.ok_sDrop, M.kDrop, M.ok_sRet, M.kRet, M.ok_sRetN, M.ok_sNext, M.ok_sBrk, M.ok_sCnt, M.ok_sIf, M.kIf, M.kAug, M.kApp, M.ok_sFor, M.kFor, M.ok_fnM, M.kFn_rt, M.kFn_nx, M.ok_iS, M.kIS_lst, M.kIS_tup, M.ok_iR1, M.kR1, M.ok_iR2, M.kR2, M.ok_eLstRg, M.ok_eTupRg, M.kRg, M.ok_rg1, M.kRg1, M.ok_rg2, M.kRg2, M.kRg2b, M.ok_eM1, M.kM1, M.kM1b, M.ok_eComp, M.kComp, M.kComp1, M.ok_eComp2, M.kCompC, M.kCompB, M.ok_eDisp, M.kDisp, M.ok_sAug1, M.ok_sApp1, M.kApp1, M.kIt_nx, M.kIt_ct, M.kIt_bk, M.kIt_rt, M.v_sub, M.v_addI, M.v_addA, M.v_subA, M.v_lt, M.v_le, M.v_gt, M.v_ge, M.v_int, M.v_lenL, M.v_lenT, M.v_lenZ, M.v_abs, M.v_max, M.v_min, M.v_neg, M.v_ixL, M.v_ixT, M.v_ixZ, M.v_cutL, M.v_cutT, M.v_tupL, M.v_tupT, M.v_lstL, M.v_lstT, M.tr_bl, M.tr_int, M.tr_lst, M.tr_tup, M.tr_non, M.env0_go, M.g_N, M.g_T, M.g_sC, M.g_sN, M.wipe0, M.wipeS, M.ge_0, M.ge_S, List.set_cons_zero, List.set_cons_succ, List.map_cons, List.map_nil, List.cons_append, List.nil_append, List.length_cons, List.length_nil, Nat.reduceAdd, Nat.reduceSub, List.replicate_succ, List.replicate_zero, Option.bind_some, String.reduceBEq, Int.reduceBEq, Bool.or_self, if_true, if_false, Bool.false_eq_true, Bool.not_true, Bool.not_false, true_and, and_true, decide_true, decide_false, Option.map_some, List.all_cons, List.all_nil, List.any_cons, List.any_nil, Bool.and_self, Bool.or_false, Bool.false_or, Bool.or_true, Bool.true_or, Bool.and_true, Bool.true_and, Bool.and_false, Bool.false_and, beq_self_eq_true, bne_self_eq_false]
        by_cases hr : 0 < r
        · simp only [M.ok_ok, M.ok_no, M.oko_some, M.ok_eC, M.ok_eV0, M.ok_eVs, M.ok_e1, M.k1, M.ok_e2, M.k2a, M.k2, M.ok_evs0, M.ok_evs, M.kA, M.ok_eTup, M.ok_eLst, M.ok_eB, M.ok_eCall, M.kTup, M.kLst, M.kB, M.kCall, M.ok_eIf, M.kIfE, M.ok_eAnd, M.kAnd, M.ok_eOr, M.kOr, M.ok_eNot, M.kNotE, M.ok_eChain, M.kCh, M.kCh2, M.ok_tOfE, M.kTo, M.ok_tTru, M.kTru, M.ok_tAnd, M.ok_tOr, M.ok_tNot, M.kTAnd, M.kTOr, M.kTNot, M.ok_tYes, M.ok_pNo, M.ok_pSome, M.kPs, M.ok_eCut, M.kCut, M.kCut1, M.kCut2, M.ok_eDGet, M.kDg, M.kDg2, M.ok_sSeq, M.kSeq_nx, M.kSeq_rt, M.kSeq_bk, M.kSeq_ct, M.ok_sSet, M.kSet, M.ok_sAsg, M.kAsg, M.ok_sPar, M.kPar, M.ok_sDrop, M.kDrop, M.ok_sRet, M.kRet, M.ok_sRetN, M.ok_sNext, M.ok_sBrk, M.ok_sCnt, M.ok_sIf, M.kIf, M.kAug, M.kApp, M.ok_sFor, M.kFor, M.ok_fnM, M.kFn_rt, M.kFn_nx, M.ok_iS, M.kIS_lst, M.kIS_tup, M.ok_iR1, M.kR1, M.ok_iR2, M.kR2, M.ok_eLstRg, M.ok_eTupRg, M.kRg, M.ok_rg1, M.kRg1, M.ok_rg2, M.kRg2, M.kRg2b, M.ok_eM1, M.kM1, M.kM1b, M.ok_eComp, M.kComp, M.kComp1, M.ok_eComp2, M.kCompC, M.kCompB, M.ok_eDisp, M.kDisp, M.ok_sAug1, M.ok_sApp1, M.kApp1, M.kIt_nx, M.kIt_ct, M.kIt_bk, M.kIt_rt, M.v_sub, M.v_addI, M.v_addA, M.v_subA, M.v_lt, M.v_le, M.v_gt, M.v_ge, M.v_int, M.v_lenL, M.v_lenT, M.v_lenZ, M.v_abs, M.v_max, M.v_min, M.v_neg, M.v_ixL, M.v_ixT, M.v_ixZ, M.v_cutL, M.v_cutT, M.v_tupL, M.v_tupT, M.v_lstL, M.v_lstT, M.tr_bl, M.tr_int, M.tr_lst, M.tr_tup, M.tr_non, M.env0_go, M.g_N, M.g_T, M.g_sC, M.g_sN, M.wipe0, M.wipeS, M.ge_0, M.ge_S, List.set_cons_zero, List.set_cons_succ, List.map_cons, List.map_nil, List.cons_append, List.nil_append, List.length_cons, List.length_nil, Nat.reduceAdd, Nat.reduceSub, List.replicate_succ, List.replicate_zero, Option.bind_some, String.reduceBEq, Int.reduceBEq, Bool.or_self, if_true, if_false, Bool.false_eq_true, Bool.not_true, Bool.not_false, true_and, and_true, decide_true, decide_false, Option.map_some, List.all_cons, List.all_nil, List.any_cons, List.any_nil, Bool.and_self, Bool.or_false, Bool.false_or, Bool.or_true, Bool.true_or, Bool.and_true, Bool.true_and, Bool.and_false, Bool.false_and, beq_self_eq_true, bne_self_eq_false, hr, v_mod (show (0 : Int) < 997 by decide), v_div (show (0 : Int) < 997 by decide) (show (997 : Int) < 2 ^ 64 by decide), map_snoc, List.length_map]
          refine ⟨by omega, zs ++ [r % 997], r / 997, _, rfl, by omega, ?_⟩
          rw [List.length_append]
          simp only [List.length_cons, List.length_nil]
          omega
        · simp only [M.ok_ok, M.ok_no, M.oko_some, M.ok_eC, M.ok_eV0, M.ok_eVs, M.ok_e1, M.k1, M.ok_e2, M.k2a, M.k2, M.ok_evs0, M.ok_evs, M.kA, M.ok_eTup, M.ok_eLst, M.ok_eB, M.ok_eCall, M.kTup, M.kLst, M.kB, M.kCall, M.ok_eIf, M.kIfE, M.ok_eAnd, M.kAnd, M.ok_eOr, M.kOr, M.ok_eNot, M.kNotE, M.ok_eChain, M.kCh, M.kCh2, M.ok_tOfE, M.kTo, M.ok_tTru, M.kTru, M.ok_tAnd, M.ok_tOr, M.ok_tNot, M.kTAnd, M.kTOr, M.kTNot, M.ok_tYes, M.ok_pNo, M.ok_pSome, M.kPs, M.ok_eCut, M.kCut, M.kCut1, M.kCut2, M.ok_eDGet, M.kDg, M.kDg2, M.ok_sSeq, M.kSeq_nx, M.kSeq_rt, M.kSeq_bk, M.kSeq_ct, M.ok_sSet, M.kSet, M.ok_sAsg, M.kAsg, M.ok_sPar, M.kPar, M.ok_sDrop, M.kDrop, M.ok_sRet, M.kRet, M.ok_sRetN, M.ok_sNext, M.ok_sBrk, M.ok_sCnt, M.ok_sIf, M.kIf, M.kAug, M.kApp, M.ok_sFor, M.kFor, M.ok_fnM, M.kFn_rt, M.kFn_nx, M.ok_iS, M.kIS_lst, M.kIS_tup, M.ok_iR1, M.kR1, M.ok_iR2, M.kR2, M.ok_eLstRg, M.ok_eTupRg, M.kRg, M.ok_rg1, M.kRg1, M.ok_rg2, M.kRg2, M.kRg2b, M.ok_eM1, M.kM1, M.kM1b, M.ok_eComp, M.kComp, M.kComp1, M.ok_eComp2, M.kCompC, M.kCompB, M.ok_eDisp, M.kDisp, M.ok_sAug1, M.ok_sApp1, M.kApp1, M.kIt_nx, M.kIt_ct, M.kIt_bk, M.kIt_rt, M.v_sub, M.v_addI, M.v_addA, M.v_subA, M.v_lt, M.v_le, M.v_gt, M.v_ge, M.v_int, M.v_lenL, M.v_lenT, M.v_lenZ, M.v_abs, M.v_max, M.v_min, M.v_neg, M.v_ixL, M.v_ixT, M.v_ixZ, M.v_cutL, M.v_cutT, M.v_tupL, M.v_tupT, M.v_lstL, M.v_lstT, M.tr_bl, M.tr_int, M.tr_lst, M.tr_tup, M.tr_non, M.env0_go, M.g_N, M.g_T, M.g_sC, M.g_sN, M.wipe0, M.wipeS, M.ge_0, M.ge_S, List.set_cons_zero, List.set_cons_succ, List.map_cons, List.map_nil, List.cons_append, List.nil_append, List.length_cons, List.length_nil, Nat.reduceAdd, Nat.reduceSub, List.replicate_succ, List.replicate_zero, Option.bind_some, String.reduceBEq, Int.reduceBEq, Bool.or_self, if_true, if_false, Bool.false_eq_true, Bool.not_true, Bool.not_false, true_and, and_true, decide_true, decide_false, Option.map_some, List.all_cons, List.all_nil, List.any_cons, List.any_nil, Bool.and_self, Bool.or_false, Bool.false_or, Bool.or_true, Bool.true_or, Bool.and_true, Bool.true_and, Bool.and_false, Bool.false_and, beq_self_eq_true, bne_self_eq_false, hr]
          exact ⟨zs, r, _, rfl, h0, by omega⟩
      · rintro ρ s2 ⟨rfl, zs, r, o7, rfl, h0, h1⟩
        have : (60 : Int).toNat = 60 := rfl
        exact ⟨rfl, zs, _, _, _, rfl, by omega⟩
    by_cases big : (10 : Int) ^ (18 : Int).toNat ≤ c
    · simp only [M.ok_ok, M.ok_no, M.oko_some, M.ok_eC, M.ok_eV0, M.ok_eVs, M.ok_e1, M.k1, M.ok_e2, M.k2a, M.k2, M.ok_evs0, M.ok_evs, M.kA, M.ok_eTup, M.ok_eLst, M.ok_eB, M.ok_eCall, M.kTup, M.kLst, M.kB, M.kCall, M.ok_eIf, M.kIfE, M.ok_eAnd, M.kAnd, M.ok_eOr, M.kOr, M.ok_eNot, M.kNotE, M.ok_eChain, M.kCh, M.kCh2, M.ok_tOfE, M.kTo, M.ok_tTru, M.kTru, M.ok_tAnd, M.ok_tOr, M.ok_tNot, M.kTAnd, M.kTOr, M.kTNot, M.ok_tYes, M.ok_pNo, M.ok_pSome, M.kPs, M.ok_eCut, M.kCut, M.kCut1, M.kCut2, M.ok_eDGet, M.kDg, M.kDg2, M.ok_sSeq, M.kSeq_nx, M.kSeq_rt, M.kSeq_bk, M.kSeq_ct, M.ok_sSet, M.kSet, M.ok_sAsg, M.kAsg, M.ok_sPar, M.kPar, M.ok_sDrop, M.kDrop, M.ok_sRet, M.kRet, M.ok_sRetN, M.ok_sNext, M.ok_sBrk, M.ok_sCnt, M.ok_sIf, M.kIf, M.kAug, M.kApp, M.ok_sFor, M.kFor, M.ok_fnM, M.kFn_rt, M.kFn_nx, M.ok_iS, M.kIS_lst, M.kIS_tup, M.ok_iR1, M.kR1, M.ok_iR2, M.kR2, M.ok_eLstRg, M.ok_eTupRg, M.kRg, M.ok_rg1, M.kRg1, M.ok_rg2, M.kRg2, M.kRg2b, M.ok_eM1, M.kM1, M.kM1b, M.ok_eComp, M.kComp, M.kComp1, M.ok_eComp2, M.kCompC, M.kCompB, M.ok_eDisp, M.kDisp, M.ok_sAug1, M.ok_sApp1, M.kApp1, M.kIt_nx, M.kIt_ct, M.kIt_bk, M.kIt_rt, M.v_sub, M.v_addI, M.v_addA, M.v_subA, M.v_lt, M.v_le, M.v_gt, M.v_ge, M.v_int, M.v_lenL, M.v_lenT, M.v_lenZ, M.v_abs, M.v_max, M.v_min, M.v_neg, M.v_ixL, M.v_ixT, M.v_ixZ, M.v_cutL, M.v_cutT, M.v_tupL, M.v_tupT, M.v_lstL, M.v_lstT, M.tr_bl, M.tr_int, M.tr_lst, M.tr_tup, M.tr_non, M.env0_go, M.g_N, M.g_T, M.g_sC, M.g_sN, M.wipe0, M.wipeS, M.ge_0, M.ge_S, List.set_cons_zero, List.set_cons_succ, List.map_cons, List.map_nil, List.cons_append, List.nil_append, List.length_cons, List.length_nil, Nat.reduceAdd, Nat.reduceSub, List.replicate_succ, List.replicate_zero, Option.bind_some, String.reduceBEq, Int.reduceBEq, Bool.or_self, if_true, if_false, Bool.false_eq_true, Bool.not_true, Bool.not_false, true_and, and_true, decide_true, decide_false, Option.map_some, List.all_cons, List.all_nil, List.any_cons, List.any_nil, Bool.and_self, Bool.or_false, Bool.false_or, Bool.or_true, Bool.true_or, Bool.and_true, Bool.true_and, Bool.and_false, Bool.false_and, beq_self_eq_true, bne_self_eq_false, big]
      refine ⟨by omega, Ok.mono (mid xs c hc0 (.inr h2)) ?_⟩
      rintro o s2 ⟨rfl, zs, o5, o6, o7, rfl, h3⟩
      exact ⟨rfl, zs, y, _, _, _, _, rfl, hy0, hy1, h3⟩
    · simp only [M.ok_ok, M.ok_no, M.oko_some, M.ok_eC, M.ok_eV0, M.ok_eVs, M.ok_e1, M.k1, M.ok_e2, M.k2a, M.k2, M.ok_evs0, M.ok_evs, M.kA, M.ok_eTup, M.ok_eLst, M.ok_eB, M.ok_eCall, M.kTup, M.kLst, M.kB, M.kCall, M.ok_eIf, M.kIfE, M.ok_eAnd, M.kAnd, M.ok_eOr, M.kOr, M.ok_eNot, M.kNotE, M.ok_eChain, M.kCh, M.kCh2, M.ok_tOfE, M.kTo, M.ok_tTru, M.kTru, M.ok_tAnd, M.ok_tOr, M.ok_tNot, M.kTAnd, M.kTOr, M.kTNot, M.ok_tYes, M.ok_pNo, M.ok_pSome, M.kPs, M.ok_eCut, M.kCut, M.kCut1, M.kCut2, M.ok_eDGet, M.kDg, M.kDg2, M.ok_sSeq, M.kSeq_nx, M.kSeq_rt, M.kSeq_bk, M.kSeq_ct, M.ok_sSet, M.kSet, M.ok_sAsg, M.kAsg, M.ok_sPar, M.kPar, M.ok_sDrop, M.kDrop, M.ok_sRet, M.kRet, M.ok_sRetN, M.ok_sNext, M.ok_sBrk, M.ok_sCnt, M.ok_sIf, M.kIf, M.kAug, M.kApp, M.ok_sFor, M.kFor, M.ok_fnM, M.kFn_rt, M.kFn_nx, M.ok_iS, M.kIS_lst, M.kIS_tup, M.ok_iR1, M.kR1, M.ok_iR2, M.kR2, M.ok_eLstRg, M.ok_eTupRg, M.kRg, M.ok_rg1, M.kRg1, M.ok_rg2, M.kRg2, M.kRg2b, M.ok_eM1, M.kM1, M.kM1b, M.ok_eComp, M.kComp, M.kComp1, M.ok_eComp2, M.kCompC, M.kCompB, M.ok_eDisp, M.kDisp, M.ok_sAug1, M.ok_sApp1, M.kApp1, M.kIt_nx, M.kIt_ct, M.kIt_bk, M.kIt_rt, M.v_sub, M.v_addI, M.v_addA, M.v_subA, M.v_lt, M.v_le, M.v_gt, M.v_ge, M.v_int, M.v_lenL, M.v_lenT, M.v_lenZ, M.v_abs, M.v_max, M.v_min, M.v_neg, M.v_ixL, M.v_ixT, M.v_ixZ, M.v_cutL, M.v_cutT, M.v_tupL, M.v_tupT, M.v_lstL, M.v_lstT, M.tr_bl, M.tr_int, M.tr_lst, M.tr_tup, M.tr_non, M.env0_go, M.g_N, M.g_T, M.g_sC, M.g_sN, M.wipe0, M.wipeS, M.ge_0, M.ge_S, List.set_cons_zero, List.set_cons_succ, List.map_cons, List.map_nil, List.cons_append, List.nil_append, List.length_cons, List.length_nil, Nat.reduceAdd, Nat.reduceSub, List.replicate_succ, List.replicate_zero, Option.bind_some, String.reduceBEq, Int.reduceBEq, Bool.or_self, if_true, if_false, Bool.false_eq_true, Bool.not_true, Bool.not_false, true_and, and_true, decide_true, decide_false, Option.map_some, List.all_cons, List.all_nil, List.any_cons, List.any_nil, Bool.and_self, Bool.or_false, Bool.false_or, Bool.or_true, Bool.true_or, Bool.and_true, Bool.true_and, Bool.and_false, Bool.false_and, beq_self_eq_true, bne_self_eq_false, big, v_mod (show (0 : Int) < 997 by decide), v_mod (show (0 : Int) < 65521 by decide), v_mul (show (-(2 ^ 64) : Int) < y by omega) (show y < 2 ^ 64 by omega) (show (-(2 ^ 64) : Int) < 69621 by decide) (show (69621 : Int) < 2 ^ 64 by decide), map_snoc, List.length_map, List.length_append]
      refine ⟨by omega, by omega, by omega, ?_⟩
      have key := mid (xs ++ [c % 997] ++ [(y * 69621 + 5) % 65521 % 997]) 0 (by omega) (.inl ⟨rfl, by rw [List.length_append, List.length_append]; simp only [List.length_cons, List.length_nil]; omega⟩)
      refine Ok.mono key ?_
      · rintro o s2 ⟨rfl, zs, o5, o6, o7, rfl, h3⟩
        exact ⟨rfl, zs, y, _, _, _, _, rfl, hy0, hy1, h3⟩
  · rintro ρ s' ⟨rfl, xs, x, o4, o5, o6, o7, rfl, h0, h1, h2⟩
    simp only [M.ok_ok, M.ok_no, M.oko_some, M.ok_eC, M.ok_eV0, M.ok_eVs, M.ok_e1, M.k1, M.ok_e2, M.k2a, M.k2, M.ok_evs0, M.ok_evs, M.kA, M.ok_eTup, M.ok_eLst, M.ok_eB, M.ok_eCall, M.kTup, M.kLst, M.kB, M.kCall, M.ok_eIf, M.kIfE, M.ok_eAnd, M.kAnd, M.ok_eOr, M.kOr, M.ok_eNot, M.kNotE, M.ok_eChain, M.kCh, M.kCh2, M.ok_tOfE, M.kTo, M.ok_tTru, M.kTru, M.ok_tAnd, M.ok_tOr, M.ok_tNot, M.kTAnd, M.kTOr, M.kTNot, M.ok_tYes, M.ok_pNo, M.ok_pSome, M.kPs, M.ok_eCut, M.kCut, M.kCut1, M.kCut2, M.ok_eDGet, M.kDg, M.kDg2, M.ok_sSeq, M.kSeq_nx, M.kSeq_rt, M.kSeq_bk, M.kSeq_ct, M.ok_sSet, M.kSet, M.ok_sAsg, M.kAsg, M.ok_sPar, M.kPar, M.ok_sDrop, M.kDrop, M.ok_sRet, M.kRet, M.ok_sRetN, M.ok_sNext, M.ok_sBrk, M.ok_sCnt, M.ok_sIf, M.kIf, M.kAug, M.kApp, M.ok_sFor, M.kFor, M.ok_fnM, M.kFn_rt, M.kFn_nx, M.ok_iS, M.kIS_lst, M.kIS_tup, M.ok_iR1, M.kR1, M.ok_iR2, M.kR2, M.ok_eLstRg, M.ok_eTupRg, M.kRg, M.ok_rg1, M.kRg1, M.ok_rg2, M.kRg2, M.kRg2b, M.ok_eM1, M.kM1, M.kM1b, M.ok_eComp, M.kComp, M.kComp1, M.ok_eComp2, M.kCompC, M.kCompB, M.ok_eDisp, M.kDisp, M.ok_sAug1, M.ok_sApp1, M.kApp1, M.kIt_nx, M.kIt_ct, M.kIt_bk, M.kIt_rt, M.v_sub, M.v_addI, M.v_addA, M.v_subA, M.v_lt, M.v_le, M.v_gt, M.v_ge, M.v_int, M.v_lenL, M.v_lenT, M.v_lenZ, M.v_abs, M.v_max, M.v_min, M.v_neg, M.v_ixL, M.v_ixT, M.v_ixZ, M.v_cutL, M.v_cutT, M.v_tupL, M.v_tupT, M.v_lstL, M.v_lstT, M.tr_bl, M.tr_int, M.tr_lst, M.tr_tup, M.tr_non, M.env0_go, M.g_N, M.g_T, M.g_sC, M.g_sN, M.wipe0, M.wipeS, M.ge_0, M.ge_S, List.set_cons_zero, List.set_cons_succ, List.map_cons, List.map_nil, List.cons_append, List.nil_append, List.length_cons, List.length_nil, Nat.reduceAdd, Nat.reduceSub, List.replicate_succ, List.replicate_zero, Option.bind_some, String.reduceBEq, Int.reduceBEq, Bool.or_self, if_true, if_false, Bool.false_eq_true, Bool.not_true, Bool.not_false, true_and, and_true, decide_true, decide_false, Option.map_some, List.all_cons, List.all_nil, List.any_cons, List.any_nil, Bool.and_self, Bool.or_false, Bool.false_or, Bool.or_true, Bool.true_or, Bool.and_true, Bool.true_and, Bool.and_false, Bool.false_and, beq_self_eq_true, bne_self_eq_false]
    refine ⟨by omega, ?_⟩
    refine for_rng (fun i ρ s2 => s2 = s' ∧ ∃ (xs : List Int) (x : Int) (o4 : Option D), ρ = [some (.scr ns), some (.int m), some (.lst (xs.map .int)), some (.int x), o4, o5, o6, o7] ∧ 0 ≤ x ∧ x < 65537 ∧ xs.length ≤ 62 * 63 + i) ⟨rfl, xs, x, o4, rfl, h0, h1, by omega⟩ ?_ ?_
    · rintro i ρ s2 hi ⟨rfl, xs, x, o4, rfl, h0, h1, h2⟩
      have e0 : (0 : Int) + (i : Nat) = (i : Nat) := by omega
      have hi' : i < m := by omega
      simp only [M.ok_ok, M.ok_no, M.oko_some, M.ok_eC, M.ok_eV0, M.ok_eVs, M.ok_e1, M.k1, M.ok_e2, M.k2a, M.k2, M.ok_evs0, M.ok_evs, M.kA, M.ok_eTup, M.ok_eLst, M.ok_eB, M.ok_eCall, M.kTup, M.kLst, M.kB, M.kCall, M.ok_eIf, M.kIfE, M.ok_eAnd, M.kAnd, M.ok_eOr, M.kOr, M.ok_eNot, M.kNotE, M.ok_eChain, M.kCh, M.kCh2, M.ok_tOfE, M.kTo, M.ok_tTru, M.kTru, M.ok_tAnd, M.ok_tOr, M.ok_tNot, M.kTAnd, M.kTOr, M.kTNot, M.ok_tYes, M.ok_pNo, M.ok_pSome, M.kPs, M.ok_eCut, M.kCut, M.kCut1, M.kCut2, M.ok_eDGet, M.kDg, M.kDg2, M.ok_sSeq, M.kSeq_nx, M.kSeq_rt, M.kSeq_bk, M.kSeq_ct, M.ok_sSet, M.kSet, M.ok_sAsg, M.kAsg, M.ok_sPar, M.kPar, M.ok_sDrop, M.kDrop, M.ok_sRet, M.kRet, M.ok_sRetN, M.ok_sNext, M.ok_sBrk, M.ok_sCnt, M.ok_sIf, M.kIf, M.kAug, M.kApp, M.ok_sFor, M.kFor, M.ok_fnM, M.kFn_rt, M.kFn_nx, M.ok_iS, M.kIS_lst, M.kIS_tup, M.ok_iR1, M.kR1, M.ok_iR2, M.kR2, M.ok_eLstRg, M.ok_eTupRg, M.kRg, M.ok_rg1, M.kRg1, M.ok_rg2, M.kRg2, M.kRg2b, M.ok_eM1, M.kM1, M.kM1b, M.ok_eComp, M.kComp, M.kComp1, M.ok_eComp2, M.kCompC, M.kCompB, M.ok_eDisp, M.kDisp, M.ok_sAug1, M.ok_sApp1, M.kApp1, M.kIt_nx, M.kIt_ct, M.kIt_bk, M.kIt_rt, M.v_sub, M.v_addI, M.v_addA, M.v_subA, M.v_lt, M.v_le, M.v_gt, M.v_ge, M.v_int, M.v_lenL, M.v_lenT, M.v_lenZ, M.v_abs, M.v_max, M.v_min, M.v_neg, M.v_ixL, M.v_ixT, M.v_ixZ, M.v_cutL, M.v_cutT, M.v_tupL, M.v_tupT, M.v_lstL, M.v_lstT, M.tr_bl, M.tr_int, M.tr_lst, M.tr_tup, M.tr_non, M.env0_go, M.g_N, M.g_T, M.g_sC, M.g_sN, M.wipe0, M.wipeS, M.ge_0, M.ge_S, List.set_cons_zero, List.set_cons_succ, List.map_cons, List.map_nil, List.cons_append, List.nil_append, List.length_cons, List.length_nil, Nat.reduceAdd, Nat.reduceSub, List.replicate_succ, List.replicate_zero, Option.bind_some, String.reduceBEq, Int.reduceBEq, Bool.or_self, if_true, if_false, Bool.false_eq_true, Bool.not_true, Bool.not_false, true_and, and_true, decide_true, decide_false, Option.map_some, List.all_cons, List.all_nil, List.any_cons, List.any_nil, Bool.and_self, Bool.or_false, Bool.false_or, Bool.or_true, Bool.true_or, Bool.and_true, Bool.true_and, Bool.and_false, Bool.false_and, beq_self_eq_true, bne_self_eq_false, e0, v_mul (show (-(2 ^ 64) : Int) < x by omega) (show x < 2 ^ 64 by omega) (show (-(2 ^ 64) : Int) < 16807 by decide) (show (16807 : Int) < 2 ^ 64 by decide), v_mod (show (0 : Int) < 65537 by decide), v_mod (show (0 : Int) < 997 by decide), map_snoc, List.length_map]
      refine ⟨by omega, _, _, _, rfl, by omega, by omega, ?_⟩
      rw [List.length_append]
      simp only [List.length_cons, List.length_nil]
      omega
    · rintro ρ s2 ⟨rfl, xs, x, o4, rfl, h0, h1, h2⟩
      simp only [M.ok_ok, M.ok_no, M.oko_some, M.ok_eC, M.ok_eV0, M.ok_eVs, M.ok_e1, M.k1, M.ok_e2, M.k2a, M.k2, M.ok_evs0, M.ok_evs, M.kA, M.ok_eTup, M.ok_eLst, M.ok_eB, M.ok_eCall, M.kTup, M.kLst, M.kB, M.kCall, M.ok_eIf, M.kIfE, M.ok_eAnd, M.kAnd, M.ok_eOr, M.kOr, M.ok_eNot, M.kNotE, M.ok_eChain, M.kCh, M.kCh2, M.ok_tOfE, M.kTo, M.ok_tTru, M.kTru, M.ok_tAnd, M.ok_tOr, M.ok_tNot, M.kTAnd, M.kTOr, M.kTNot, M.ok_tYes, M.ok_pNo, M.ok_pSome, M.kPs, M.ok_eCut, M.kCut, M.kCut1, M.kCut2, M.ok_eDGet, M.kDg, M.kDg2, M.ok_sSeq, M.kSeq_nx, M.kSeq_rt, M.kSeq_bk, M.kSeq_ct, M.ok_sSet, M.kSet, M.ok_sAsg, M.kAsg, M.ok_sPar, M.kPar, M.ok_sDrop, M.kDrop, M.ok_sRet, M.kRet, M.ok_sRetN, M.ok_sNext, M.ok_sBrk, M.ok_sCnt, M.ok_sIf, M.kIf, M.kAug, M.kApp, M.ok_sFor, M.kFor, M.ok_fnM, M.kFn_rt, M.kFn_nx, M.ok_iS, M.kIS_lst, M.kIS_tup, M.ok_iR1, M.kR1, M.ok_iR2, M.kR2, M.ok_eLstRg, M.ok_eTupRg, M.kRg, M.ok_rg1, M.kRg1, M.ok_rg2, M.kRg2, M.kRg2b, M.ok_eM1, M.kM1, M.kM1b, M.ok_eComp, M.kComp, M.kComp1, M.ok_eComp2, M.kCompC, M.kCompB, M.ok_eDisp, M.kDisp, M.ok_sAug1, M.ok_sApp1, M.kApp1, M.kIt_nx, M.kIt_ct, M.kIt_bk, M.kIt_rt, M.v_sub, M.v_addI, M.v_addA, M.v_subA, M.v_lt, M.v_le, M.v_gt, M.v_ge, M.v_int, M.v_lenL, M.v_lenT, M.v_lenZ, M.v_abs, M.v_max, M.v_min, M.v_neg, M.v_ixL, M.v_ixT, M.v_ixZ, M.v_cutL, M.v_cutT, M.v_tupL, M.v_tupT, M.v_lstL, M.v_lstT, M.tr_bl, M.tr_int, M.tr_lst, M.tr_tup, M.tr_non, M.env0_go, M.g_N, M.g_T, M.g_sC, M.g_sN, M.wipe0, M.wipeS, M.ge_0, M.ge_S, List.set_cons_zero, List.set_cons_succ, List.map_cons, List.map_nil, List.cons_append, List.nil_append, List.length_cons, List.length_nil, Nat.reduceAdd, Nat.reduceSub, List.replicate_succ, List.replicate_zero, Option.bind_some, String.reduceBEq, Int.reduceBEq, Bool.or_self, if_true, if_false, Bool.false_eq_true, Bool.not_true, Bool.not_false, true_and, and_true, decide_true, decide_false, Option.map_some, List.all_cons, List.all_nil, List.any_cons, List.any_nil, Bool.and_self, Bool.or_false, Bool.false_or, Bool.or_true, Bool.true_or, Bool.and_true, Bool.true_and, Bool.and_false, Bool.false_and, beq_self_eq_true, bne_self_eq_false]
      exact ⟨_, by rw [cut_map]⟩
end M
/-! P3: strings, kinds, membership, likeness. -/
namespace M
open PySem PySem.Spec PyProof.Rows L2
theorem is_non_int  : oIsInst [.non, .ty "int"] = some (.bl false) := nr (by with_unfolding_all rfl)
theorem is_non_bool  : oIsInst [.non, .ty "bool"] = some (.bl false) := nr (by with_unfolding_all rfl)
theorem is_non_str  : oIsInst [.non, .ty "str"] = some (.bl false) := nr (by with_unfolding_all rfl)
theorem is_non_tuple  : oIsInst [.non, .ty "tuple"] = some (.bl false) := nr (by with_unfolding_all rfl)
theorem is_non_list  : oIsInst [.non, .ty "list"] = some (.bl false) := nr (by with_unfolding_all rfl)
theorem is_non_dict  : oIsInst [.non, .ty "dict"] = some (.bl false) := nr (by with_unfolding_all rfl)
theorem is_bl_int {b : Bool} : oIsInst [.bl b, .ty "int"] = some (.bl true) := nr (by with_unfolding_all rfl)
theorem is_bl_bool {b : Bool} : oIsInst [.bl b, .ty "bool"] = some (.bl true) := nr (by with_unfolding_all rfl)
theorem is_bl_str {b : Bool} : oIsInst [.bl b, .ty "str"] = some (.bl false) := nr (by with_unfolding_all rfl)
theorem is_bl_tuple {b : Bool} : oIsInst [.bl b, .ty "tuple"] = some (.bl false) := nr (by with_unfolding_all rfl)
theorem is_bl_list {b : Bool} : oIsInst [.bl b, .ty "list"] = some (.bl false) := nr (by with_unfolding_all rfl)
theorem is_bl_dict {b : Bool} : oIsInst [.bl b, .ty "dict"] = some (.bl false) := nr (by with_unfolding_all rfl)
theorem is_int_int {i : Int} : oIsInst [.int i, .ty "int"] = some (.bl true) := nr (by with_unfolding_all rfl)
theorem is_int_bool {i : Int} : oIsInst [.int i, .ty "bool"] = some (.bl false) := nr (by with_unfolding_all rfl)
theorem is_int_str {i : Int} : oIsInst [.int i, .ty "str"] = some (.bl false) := nr (by with_unfolding_all rfl)
theorem is_int_tuple {i : Int} : oIsInst [.int i, .ty "tuple"] = some (.bl false) := nr (by with_unfolding_all rfl)
theorem is_int_list {i : Int} : oIsInst [.int i, .ty "list"] = some (.bl false) := nr (by with_unfolding_all rfl)
theorem is_int_dict {i : Int} : oIsInst [.int i, .ty "dict"] = some (.bl false) := nr (by with_unfolding_all rfl)
theorem is_str_int {x : Str} : oIsInst [.str x, .ty "int"] = some (.bl false) := nr (by with_unfolding_all rfl)
theorem is_str_bool {x : Str} : oIsInst [.str x, .ty "bool"] = some (.bl false) := nr (by with_unfolding_all rfl)
theorem is_str_str {x : Str} : oIsInst [.str x, .ty "str"] = some (.bl true) := nr (by with_unfolding_all rfl)
theorem is_str_tuple {x : Str} : oIsInst [.str x, .ty "tuple"] = some (.bl false) := nr (by with_unfolding_all rfl)
theorem is_str_list {x : Str} : oIsInst [.str x, .ty "list"] = some (.bl false) := nr (by with_unfolding_all rfl)
theorem is_str_dict {x : Str} : oIsInst [.str x, .ty "dict"] = some (.bl false) := nr (by with_unfolding_all rfl)
theorem is_tup_int {ds : List D} : oIsInst [.tup ds, .ty "int"] = some (.bl false) := nr (by with_unfolding_all rfl)
theorem is_tup_bool {ds : List D} : oIsInst [.tup ds, .ty "bool"] = some (.bl false) := nr (by with_unfolding_all rfl)
theorem is_tup_str {ds : List D} : oIsInst [.tup ds, .ty "str"] = some (.bl false) := nr (by with_unfolding_all rfl)
theorem is_tup_tuple {ds : List D} : oIsInst [.tup ds, .ty "tuple"] = some (.bl true) := nr (by with_unfolding_all rfl)
theorem is_tup_list {ds : List D} : oIsInst [.tup ds, .ty "list"] = some (.bl false) := nr (by with_unfolding_all rfl)
theorem is_tup_dict {ds : List D} : oIsInst [.tup ds, .ty "dict"] = some (.bl false) := nr (by with_unfolding_all rfl)
theorem is_lst_int {ds : List D} : oIsInst [.lst ds, .ty "int"] = some (.bl false) := nr (by with_unfolding_all rfl)
theorem is_lst_bool {ds : List D} : oIsInst [.lst ds, .ty "bool"] = some (.bl false) := nr (by with_unfolding_all rfl)
theorem is_lst_str {ds : List D} : oIsInst [.lst ds, .ty "str"] = some (.bl false) := nr (by with_unfolding_all rfl)
theorem is_lst_tuple {ds : List D} : oIsInst [.lst ds, .ty "tuple"] = some (.bl false) := nr (by with_unfolding_all rfl)
theorem is_lst_list {ds : List D} : oIsInst [.lst ds, .ty "list"] = some (.bl true) := nr (by with_unfolding_all rfl)
theorem is_lst_dict {ds : List D} : oIsInst [.lst ds, .ty "dict"] = some (.bl false) := nr (by with_unfolding_all rfl)
theorem str_inj {a b : String} (h : Str.ofString a = Str.ofString b) : a = b := by
  rw [Str.ofString_eq_toList, Str.ofString_eq_toList] at h
  have h1 : (a.toList.map Char.toNat).toArray = (b.toList.map Char.toNat).toArray := congrArg Str.cps h
  have h2 : a.toList.map Char.toNat = b.toList.map Char.toNat := by simpa using h1
  have h3 : a.toList = b.toList := by
    have inj : ∀ (x y : List Char), x.map Char.toNat = y.map Char.toNat → x = y := by
      intro x
      induction x with
      | nil => intro y h; cases y with
        | nil => rfl
        | cons => cases h
      | cons c cs ih => intro y h; cases y with
        | nil => cases h
        | cons d ds =>
          rw [List.map_cons, List.map_cons] at h
          injection h with h1 h2
          rw [ih ds h2]
          congr 1
          exact Char.ext (UInt32.toNat_inj.mp h1)
    exact inj _ _ h2
  exact String.toList_inj.mp h3
theorem str_beq {a b : String} : (Str.ofString a == Str.ofString b) = (a == b) := by
  by_cases h : a = b
  · subst h; simp
  · have h2 : ¬ Str.ofString a = Str.ofString b := fun e => h (str_inj e)
    rw [beq_eq_false_iff_ne.mpr h, beq_eq_false_iff_ne.mpr h2]
theorem f_non : flatD .non = true := nr rfl
theorem f_bl {b : Bool} : flatD (.bl b) = true := nr rfl
theorem f_int {i : Int} : flatD (.int i) = true := nr rfl
theorem f_str {x : Str} : flatD (.str x) = true := nr rfl
theorem fe_str {x y : Str} : flatEq (.str x) (.str y) = (x == y) := nr rfl
theorem fe_int {x y : Int} : flatEq (.int x) (.int y) = (x == y) := nr rfl
theorem fe_si {x : Str} {y : Int} : flatEq (.str x) (.int y) = false := nr rfl
theorem fe_is {x : Str} {y : Int} : flatEq (.int y) (.str x) = false := nr rfl
theorem in_tup {x : D} {ds : List D} (h : flatD x = true) (h2 : ds.all flatD = true) : oIn x (.tup ds) = some (.bl (ds.any fun z => flatEq z x)) := by
  unfold oIn inD; simp only [h, h2, and_self, if_true]; rfl
theorem in_lst {x : D} {ds : List D} (h : flatD x = true) (h2 : ds.all flatD = true) : oIn x (.lst ds) = some (.bl (ds.any fun z => flatEq z x)) := by
  unfold oIn inD; simp only [h, h2, and_self, if_true]; rfl
theorem nin_tup {x : D} {ds : List D} (h : flatD x = true) (h2 : ds.all flatD = true) : oNotIn x (.tup ds) = some (.bl (!ds.any fun z => flatEq z x)) := by
  unfold oNotIn inD; simp only [h, h2, and_self, if_true]; rfl
theorem nin_lst {x : D} {ds : List D} (h : flatD x = true) (h2 : ds.all flatD = true) : oNotIn x (.lst ds) = some (.bl (!ds.any fun z => flatEq z x)) := by
  unfold oNotIn inD; simp only [h, h2, and_self, if_true]; rfl
theorem at_0 {α : Type} {a : α} {as : List α} : atI (a :: as) 0 = some a := by
  have := atI_nat (xs := a :: as) (i := 0) (by simp)
  exact this
theorem at_1 {α : Type} {a b : α} {as : List α} : atI (a :: b :: as) 1 = some b := by
  have := atI_nat (xs := a :: b :: as) (i := 1) (by simp)
  exact this
theorem at_2 {α : Type} {a b c : α} {as : List α} : atI (a :: b :: c :: as) 2 = some c := by
  have := atI_nat (xs := a :: b :: c :: as) (i := 2) (by simp)
  exact this
theorem at_3 {α : Type} {a b c d : α} {as : List α} : atI (a :: b :: c :: d :: as) 3 = some d := by
  have := atI_nat (xs := a :: b :: c :: d :: as) (i := 3) (by simp)
  exact this
theorem eq_of {d e : D} {p q : PyData} (h1 : D.toPy d = some p) (h2 : D.toPy e = some q) (h3 : SeqAt.shaped p = true) (h4 : SeqAt.shaped q = true) : oEq d e = some (.bl (PyData.eqv p q)) := by
  unfold oEq eqD; rw [h1, h2]; simp only [h3, h4, and_self, if_true]; rfl
theorem ne_of {d e : D} {p q : PyData} (h1 : D.toPy d = some p) (h2 : D.toPy e = some q) (h3 : SeqAt.shaped p = true) (h4 : SeqAt.shaped q = true) : oNe d e = some (.bl (!PyData.eqv p q)) := by
  unfold oNe eqD; rw [h1, h2]; simp only [h3, h4, and_self, if_true]; rfl
theorem eq_int {i j : Int} : oEq (.int i) (.int j) = some (.bl (i == j)) := nr rfl
theorem ne_int {i j : Int} : oNe (.int i) (.int j) = some (.bl (!(i == j))) := nr rfl
theorem eq_bl {i j : Bool} : oEq (.bl i) (.bl j) = some (.bl (i == j)) := nr rfl
theorem eq_nil : oEq (.lst []) (.lst []) = some (.bl true) := nr rfl
theorem strOk_of (a : String) : (Str.ofString a).cps.all (· < 0x110000) = true := by
  rw [Str.ofString_eq_toList]
  simp only [List.all_toArray, List.all_map, List.all_eq_true]
  intro c _
  simp only [Function.comp, decide_eq_true_eq]
  have := c.valid
  have h : c.toNat < 0x110000 := by
    rcases this with h | ⟨_, h⟩
    · exact Nat.lt_trans h (by decide)
    · exact h
  exact h
theorem shaped_str {x : Str} (h : x.cps.all (· < 0x110000) = true) : SeqAt.shaped (.str x) = true := by
  unfold SeqAt.shaped
  rw [Bool.and_eq_true]
  exact ⟨h, rfl⟩
theorem eq_str {a b : String} : oEq (.str (Str.ofString a)) (.str (Str.ofString b)) = some (.bl (a == b)) := by
  rw [eq_of (p := .str (Str.ofString a)) (q := .str (Str.ofString b)) rfl rfl (shaped_str (strOk_of a)) (shaped_str (strOk_of b))]
  congr 2
  exact str_beq
theorem eq_str1 {x : Str} (h : x.cps.all (· < 0x110000) = true) : oEq (.str x) (.str x) = some (.bl true) := by
  rw [eq_of (p := .str x) (q := .str x) rfl rfl (shaped_str h) (shaped_str h)]
  congr 2
  exact beq_self_eq_true x
theorem ne_str {a b : String} : oNe (.str (Str.ofString a)) (.str (Str.ofString b)) = some (.bl (!(a == b))) := by
  rw [ne_of (p := .str (Str.ofString a)) (q := .str (Str.ofString b)) rfl rfl (shaped_str (strOk_of a)) (shaped_str (strOk_of b))]
  congr 3
  exact str_beq

/-! ### likeness -/
def ALIKE (g : List D → Sto → Res D) : MS :=
  (sSeq (sIf (tTru (eB oIsInst [(eV 1), (eC (.ty "tuple"))])) (sSeq (sIf (tOrM (tNotM (tTru (eB oIsInst [(eV 0), (eC (.ty "tuple"))]))) (tOfE (e2 oNe (e1 oLen (eV 0)) (e1 oLen (eV 1))))) (sRet (eC (.bl false))) sNext)
    (sRet (e2 oEq (eComp (iR1 [(e1 oLen (eV 1))]) (gN 2) (tNotM (tTru (eCall g [(e2 oIx (eV 0) (eV 2)), (e2 oIx (eV 1) (eV 2))]))) (eV 2) [2]) (eLst [])))) sNext)
    (sSeq (sIf (tOfE (e2 oIsNone (eV 1) (eC .non))) (sRet (e2 oIsNone (eV 0) (eC .non))) sNext)
    (sSeq (sIf (tTru (eB oIsInst [(eV 1), (eC (.ty "bool"))])) (sRet (eAnd (eB oIsInst [(eV 0), (eC (.ty "bool"))]) (e2 oEq (eV 0) (eV 1)))) sNext)
    (sSeq (sIf (tTru (eB oIsInst [(eV 1), (eC (.ty "int"))])) (sRet (eAnd (eB oIsInst [(eV 0), (eC (.ty "int"))]) (eAnd (eNot (eB oIsInst [(eV 0), (eC (.ty "bool"))])) (e2 oEq (eV 0) (eV 1))))) sNext)
    (sRet (eAnd (eB oIsInst [(eV 0), (eC (.ty "str"))]) (e2 oEq (eV 0) (eV 1))))))))
/-- data without lists, so deep -/
inductive Pd : Nat → D → Prop where
  | non {n : Nat} : Pd n .non
  | bl {n : Nat} (b : Bool) : Pd n (.bl b)
  | int {n : Nat} (i : Int) : Pd n (.int i)
  | str {n : Nat} {x : Str} (h : x.cps.all (· < 0x110000) = true) : Pd n (.str x)
  | tup {n : Nat} {ds : List D} (l : ds.length ≤ 16777216) (h : ∀ d ∈ ds, Pd n d) : Pd (n + 1) (.tup ds)
theorem isn_non : oIsNone .non .non = some (.bl true) := nr rfl
theorem isn_bl {b : Bool} : oIsNone (.bl b) .non = some (.bl false) := nr rfl
theorem isn_int {b : Int} : oIsNone (.int b) .non = some (.bl false) := nr rfl
theorem isn_str {b : Str} : oIsNone (.str b) .non = some (.bl false) := nr rfl
theorem isn_tup {b : List D} : oIsNone (.tup b) .non = some (.bl false) := nr rfl
theorem isn_lst {b : List D} : oIsNone (.lst b) .non = some (.bl false) := nr rfl
theorem alike_refl (F : Nat → List D → Sto → Res D) (hF : ∀ k, F (k + 1) = fnM 3 (ALIKE (F k))) : ∀ (n k : Nat) (d : D) (s : Sto), Pd n d → n < k → F k [d, d] s = .ok (.bl true) s := by
  intro n
  induction n with
  | zero =>
    intro k d s h hk
    obtain ⟨k, rfl⟩ : ∃ j, k = j + 1 := ⟨k - 1, by omega⟩
    rw [hF]
    apply Ok.eq
    unfold ALIKE
    cases h with
    | non => simp only [M.ok_ok, M.ok_no, M.oko_some, M.ok_eC, M.ok_eV0, M.ok_eVs, M.ok_e1, M.k1, M.ok_e2, M.k2a, M.k2, M.ok_evs0, M.ok_evs, M.kA, M.ok_eTup, M.ok_eLst, M.ok_eB, M.ok_eCall, M.kTup, M.kLst, M.kB, M.kCall, M.ok_eIf, M.kIfE, M.ok_eAnd, M.kAnd, M.ok_eOr, M.kOr, M.ok_eNot, M.kNotE, M.ok_eChain, M.kCh, M.kCh2, M.ok_tOfE, M.kTo, M.ok_tTru, M.kTru, M.ok_tAnd, M.ok_tOr, M.ok_tNot, M.kTAnd, M.kTOr, M.kTNot, M.ok_tYes, M.ok_pNo, M.ok_pSome, M.kPs, M.ok_eCut, M.kCut, M.kCut1, M.kCut2, M.ok_eDGet, M.kDg, M.kDg2, M.ok_sSeq, M.kSeq_nx, M.kSeq_rt, M.kSeq_bk, M.kSeq_ct, M.ok_sSet, M.kSet, M.ok_sAsg, M.kAsg, M.ok_sPar, M.kPar, M.ok_sDrop, M.kDrop, M.ok_sRet, M.kRet, M.ok_sRetN, M.ok_sNext, M.ok_sBrk, M.ok_sCnt, M.ok_sIf, M.kIf, M.kAug, M.kApp, M.ok_sFor, M.kFor, M.ok_fnM, M.kFn_rt, M.kFn_nx, M.ok_iS, M.kIS_lst, M.kIS_tup, M.ok_iR1, M.kR1, M.ok_iR2, M.kR2, M.ok_eLstRg, M.ok_eTupRg, M.kRg, M.ok_rg1, M.kRg1, M.ok_rg2, M.kRg2, M.kRg2b, M.ok_eM1, M.kM1, M.kM1b, M.ok_eComp, M.kComp, M.kComp1, M.ok_eComp2, M.kCompC, M.kCompB, M.ok_eDisp, M.kDisp, M.ok_sAug1, M.ok_sApp1, M.kApp1, M.kIt_nx, M.kIt_ct, M.kIt_bk, M.kIt_rt, M.v_sub, M.v_addI, M.v_addA, M.v_subA, M.v_lt, M.v_le, M.v_gt, M.v_ge, M.v_int, M.v_lenL, M.v_lenT, M.v_lenZ, M.v_abs, M.v_max, M.v_min, M.v_neg, M.v_ixL, M.v_ixT, M.v_ixZ, M.v_cutL, M.v_cutT, M.v_tupL, M.v_tupT, M.v_lstL, M.v_lstT, M.tr_bl, M.tr_int, M.tr_lst, M.tr_tup, M.tr_non, M.env0_go, M.g_N, M.g_T, M.g_sC, M.g_sN, M.wipe0, M.wipeS, M.ge_0, M.ge_S, List.set_cons_zero, List.set_cons_succ, List.map_cons, List.map_nil, List.cons_append, List.nil_append, List.length_cons, List.length_nil, Nat.reduceAdd, Nat.reduceSub, List.replicate_succ, List.replicate_zero, Option.bind_some, String.reduceBEq, Int.reduceBEq, Bool.or_self, if_true, if_false, Bool.false_eq_true, Bool.not_true, Bool.not_false, true_and, and_true, decide_true, decide_false, Option.map_some, M.is_non_int, M.is_non_bool, M.is_non_str, M.is_non_tuple, M.is_non_list, M.is_non_dict, M.is_bl_int, M.is_bl_bool, M.is_bl_str, M.is_bl_tuple, M.is_bl_list, M.is_bl_dict, M.is_int_int, M.is_int_bool, M.is_int_str, M.is_int_tuple, M.is_int_list, M.is_int_dict, M.is_str_int, M.is_str_bool, M.is_str_str, M.is_str_tuple, M.is_str_list, M.is_str_dict, M.is_tup_int, M.is_tup_bool, M.is_tup_str, M.is_tup_tuple, M.is_tup_list, M.is_tup_dict, M.is_lst_int, M.is_lst_bool, M.is_lst_str, M.is_lst_tuple, M.is_lst_list, M.is_lst_dict, M.isn_non, M.isn_bl, M.isn_int, M.isn_str, M.isn_tup, M.isn_lst, M.str_beq, M.f_non, M.f_bl, M.f_int, M.f_str, M.fe_str, M.fe_int, M.fe_si, M.fe_is, M.in_tup, M.in_lst, M.nin_tup, M.nin_lst, M.at_0, M.at_1, M.at_2, M.at_3, M.eq_int, M.ne_int, M.eq_bl, M.eq_nil, M.eq_str, M.ne_str, List.all_cons, List.all_nil, List.any_cons, List.any_nil, Bool.and_self, Bool.or_false, Bool.false_or, Bool.or_true, Bool.true_or, Bool.and_true, Bool.true_and, Bool.and_false, Bool.false_and, beq_self_eq_true, bne_self_eq_false]
    | bl b => simp only [M.ok_ok, M.ok_no, M.oko_some, M.ok_eC, M.ok_eV0, M.ok_eVs, M.ok_e1, M.k1, M.ok_e2, M.k2a, M.k2, M.ok_evs0, M.ok_evs, M.kA, M.ok_eTup, M.ok_eLst, M.ok_eB, M.ok_eCall, M.kTup, M.kLst, M.kB, M.kCall, M.ok_eIf, M.kIfE, M.ok_eAnd, M.kAnd, M.ok_eOr, M.kOr, M.ok_eNot, M.kNotE, M.ok_eChain, M.kCh, M.kCh2, M.ok_tOfE, M.kTo, M.ok_tTru, M.kTru, M.ok_tAnd, M.ok_tOr, M.ok_tNot, M.kTAnd, M.kTOr, M.kTNot, M.ok_tYes, M.ok_pNo, M.ok_pSome, M.kPs, M.ok_eCut, M.kCut, M.kCut1, M.kCut2, M.ok_eDGet, M.kDg, M.kDg2, M.ok_sSeq, M.kSeq_nx, M.kSeq_rt, M.kSeq_bk, M.kSeq_ct, M.ok_sSet, M.kSet, M.ok_sAsg, M.kAsg, M.ok_sPar, M.kPar, M.ok_sDrop, M.kDrop, M.ok_sRet, M.kRet, M.ok_sRetN, M.ok_sNext, M.ok_sBrk, M.ok_sCnt, M.ok_sIf, M.kIf, M.kAug, M.kApp, M.ok_sFor, M.kFor, M.ok_fnM, M.kFn_rt, M.kFn_nx, M.ok_iS, M.kIS_lst, M.kIS_tup, M.ok_iR1, M.kR1, M.ok_iR2, M.kR2, M.ok_eLstRg, M.ok_eTupRg, M.kRg, M.ok_rg1, M.kRg1, M.ok_rg2, M.kRg2, M.kRg2b, M.ok_eM1, M.kM1, M.kM1b, M.ok_eComp, M.kComp, M.kComp1, M.ok_eComp2, M.kCompC, M.kCompB, M.ok_eDisp, M.kDisp, M.ok_sAug1, M.ok_sApp1, M.kApp1, M.kIt_nx, M.kIt_ct, M.kIt_bk, M.kIt_rt, M.v_sub, M.v_addI, M.v_addA, M.v_subA, M.v_lt, M.v_le, M.v_gt, M.v_ge, M.v_int, M.v_lenL, M.v_lenT, M.v_lenZ, M.v_abs, M.v_max, M.v_min, M.v_neg, M.v_ixL, M.v_ixT, M.v_ixZ, M.v_cutL, M.v_cutT, M.v_tupL, M.v_tupT, M.v_lstL, M.v_lstT, M.tr_bl, M.tr_int, M.tr_lst, M.tr_tup, M.tr_non, M.env0_go, M.g_N, M.g_T, M.g_sC, M.g_sN, M.wipe0, M.wipeS, M.ge_0, M.ge_S, List.set_cons_zero, List.set_cons_succ, List.map_cons, List.map_nil, List.cons_append, List.nil_append, List.length_cons, List.length_nil, Nat.reduceAdd, Nat.reduceSub, List.replicate_succ, List.replicate_zero, Option.bind_some, String.reduceBEq, Int.reduceBEq, Bool.or_self, if_true, if_false, Bool.false_eq_true, Bool.not_true, Bool.not_false, true_and, and_true, decide_true, decide_false, Option.map_some, M.is_non_int, M.is_non_bool, M.is_non_str, M.is_non_tuple, M.is_non_list, M.is_non_dict, M.is_bl_int, M.is_bl_bool, M.is_bl_str, M.is_bl_tuple, M.is_bl_list, M.is_bl_dict, M.is_int_int, M.is_int_bool, M.is_int_str, M.is_int_tuple, M.is_int_list, M.is_int_dict, M.is_str_int, M.is_str_bool, M.is_str_str, M.is_str_tuple, M.is_str_list, M.is_str_dict, M.is_tup_int, M.is_tup_bool, M.is_tup_str, M.is_tup_tuple, M.is_tup_list, M.is_tup_dict, M.is_lst_int, M.is_lst_bool, M.is_lst_str, M.is_lst_tuple, M.is_lst_list, M.is_lst_dict, M.isn_non, M.isn_bl, M.isn_int, M.isn_str, M.isn_tup, M.isn_lst, M.str_beq, M.f_non, M.f_bl, M.f_int, M.f_str, M.fe_str, M.fe_int, M.fe_si, M.fe_is, M.in_tup, M.in_lst, M.nin_tup, M.nin_lst, M.at_0, M.at_1, M.at_2, M.at_3, M.eq_int, M.ne_int, M.eq_bl, M.eq_nil, M.eq_str, M.ne_str, List.all_cons, List.all_nil, List.any_cons, List.any_nil, Bool.and_self, Bool.or_false, Bool.false_or, Bool.or_true, Bool.true_or, Bool.and_true, Bool.true_and, Bool.and_false, Bool.false_and, beq_self_eq_true, bne_self_eq_false]
    | int i => simp only [M.ok_ok, M.ok_no, M.oko_some, M.ok_eC, M.ok_eV0, M.ok_eVs, M.ok_e1, M.k1, M.ok_e2, M.k2a, M.k2, M.ok_evs0, M.ok_evs, M.kA, M.ok_eTup, M.ok_eLst, M.ok_eB, M.ok_eCall, M.kTup, M.kLst, M.kB, M.kCall, M.ok_eIf, M.kIfE, M.ok_eAnd, M.kAnd, M.ok_eOr, M.kOr, M.ok_eNot, M.kNotE, M.ok_eChain, M.kCh, M.kCh2, M.ok_tOfE, M.kTo, M.ok_tTru, M.kTru, M.ok_tAnd, M.ok_tOr, M.ok_tNot, M.kTAnd, M.kTOr, M.kTNot, M.ok_tYes, M.ok_pNo, M.ok_pSome, M.kPs, M.ok_eCut, M.kCut, M.kCut1, M.kCut2, M.ok_eDGet, M.kDg, M.kDg2, M.ok_sSeq, M.kSeq_nx, M.kSeq_rt, M.kSeq_bk, M.kSeq_ct, M.ok_sSet, M.kSet, M.ok_sAsg, M.kAsg, M.ok_sPar, M.kPar, M.ok_sDrop, M.kDrop, M.ok_sRet, M.kRet, M.ok_sRetN, M.ok_sNext, M.ok_sBrk, M.ok_sCnt, M.ok_sIf, M.kIf, M.kAug, M.kApp, M.ok_sFor, M.kFor, M.ok_fnM, M.kFn_rt, M.kFn_nx, M.ok_iS, M.kIS_lst, M.kIS_tup, M.ok_iR1, M.kR1, M.ok_iR2, M.kR2, M.ok_eLstRg, M.ok_eTupRg, M.kRg, M.ok_rg1, M.kRg1, M.ok_rg2, M.kRg2, M.kRg2b, M.ok_eM1, M.kM1, M.kM1b, M.ok_eComp, M.kComp, M.kComp1, M.ok_eComp2, M.kCompC, M.kCompB, M.ok_eDisp, M.kDisp, M.ok_sAug1, M.ok_sApp1, M.kApp1, M.kIt_nx, M.kIt_ct, M.kIt_bk, M.kIt_rt, M.v_sub, M.v_addI, M.v_addA, M.v_subA, M.v_lt, M.v_le, M.v_gt, M.v_ge, M.v_int, M.v_lenL, M.v_lenT, M.v_lenZ, M.v_abs, M.v_max, M.v_min, M.v_neg, M.v_ixL, M.v_ixT, M.v_ixZ, M.v_cutL, M.v_cutT, M.v_tupL, M.v_tupT, M.v_lstL, M.v_lstT, M.tr_bl, M.tr_int, M.tr_lst, M.tr_tup, M.tr_non, M.env0_go, M.g_N, M.g_T, M.g_sC, M.g_sN, M.wipe0, M.wipeS, M.ge_0, M.ge_S, List.set_cons_zero, List.set_cons_succ, List.map_cons, List.map_nil, List.cons_append, List.nil_append, List.length_cons, List.length_nil, Nat.reduceAdd, Nat.reduceSub, List.replicate_succ, List.replicate_zero, Option.bind_some, String.reduceBEq, Int.reduceBEq, Bool.or_self, if_true, if_false, Bool.false_eq_true, Bool.not_true, Bool.not_false, true_and, and_true, decide_true, decide_false, Option.map_some, M.is_non_int, M.is_non_bool, M.is_non_str, M.is_non_tuple, M.is_non_list, M.is_non_dict, M.is_bl_int, M.is_bl_bool, M.is_bl_str, M.is_bl_tuple, M.is_bl_list, M.is_bl_dict, M.is_int_int, M.is_int_bool, M.is_int_str, M.is_int_tuple, M.is_int_list, M.is_int_dict, M.is_str_int, M.is_str_bool, M.is_str_str, M.is_str_tuple, M.is_str_list, M.is_str_dict, M.is_tup_int, M.is_tup_bool, M.is_tup_str, M.is_tup_tuple, M.is_tup_list, M.is_tup_dict, M.is_lst_int, M.is_lst_bool, M.is_lst_str, M.is_lst_tuple, M.is_lst_list, M.is_lst_dict, M.isn_non, M.isn_bl, M.isn_int, M.isn_str, M.isn_tup, M.isn_lst, M.str_beq, M.f_non, M.f_bl, M.f_int, M.f_str, M.fe_str, M.fe_int, M.fe_si, M.fe_is, M.in_tup, M.in_lst, M.nin_tup, M.nin_lst, M.at_0, M.at_1, M.at_2, M.at_3, M.eq_int, M.ne_int, M.eq_bl, M.eq_nil, M.eq_str, M.ne_str, List.all_cons, List.all_nil, List.any_cons, List.any_nil, Bool.and_self, Bool.or_false, Bool.false_or, Bool.or_true, Bool.true_or, Bool.and_true, Bool.true_and, Bool.and_false, Bool.false_and, beq_self_eq_true, bne_self_eq_false]
    | str h => simp only [M.ok_ok, M.ok_no, M.oko_some, M.ok_eC, M.ok_eV0, M.ok_eVs, M.ok_e1, M.k1, M.ok_e2, M.k2a, M.k2, M.ok_evs0, M.ok_evs, M.kA, M.ok_eTup, M.ok_eLst, M.ok_eB, M.ok_eCall, M.kTup, M.kLst, M.kB, M.kCall, M.ok_eIf, M.kIfE, M.ok_eAnd, M.kAnd, M.ok_eOr, M.kOr, M.ok_eNot, M.kNotE, M.ok_eChain, M.kCh, M.kCh2, M.ok_tOfE, M.kTo, M.ok_tTru, M.kTru, M.ok_tAnd, M.ok_tOr, M.ok_tNot, M.kTAnd, M.kTOr, M.kTNot, M.ok_tYes, M.ok_pNo, M.ok_pSome, M.kPs, M.ok_eCut, M.kCut, M.kCut1, M.kCut2, M.ok_eDGet, M.kDg, M.kDg2, M.ok_sSeq, M.kSeq_nx, M.kSeq_rt, M.kSeq_bk, M.kSeq_ct, M.ok_sSet, M.kSet, M.ok_sAsg, M.kAsg, M.ok_sPar, M.kPar, M.ok_sDrop, M.kDrop, M.ok_sRet, M.kRet, M.ok_sRetN, M.ok_sNext, M.ok_sBrk, M.ok_sCnt, M.ok_sIf, M.kIf, M.kAug, M.kApp, M.ok_sFor, M.kFor, M.ok_fnM, M.kFn_rt, M.kFn_nx, M.ok_iS, M.kIS_lst, M.kIS_tup, M.ok_iR1, M.kR1, M.ok_iR2, M.kR2, M.ok_eLstRg, M.ok_eTupRg, M.kRg, M.ok_rg1, M.kRg1, M.ok_rg2, M.kRg2, M.kRg2b, M.ok_eM1, M.kM1, M.kM1b, M.ok_eComp, M.kComp, M.kComp1, M.ok_eComp2, M.kCompC, M.kCompB, M.ok_eDisp, M.kDisp, M.ok_sAug1, M.ok_sApp1, M.kApp1, M.kIt_nx, M.kIt_ct, M.kIt_bk, M.kIt_rt, M.v_sub, M.v_addI, M.v_addA, M.v_subA, M.v_lt, M.v_le, M.v_gt, M.v_ge, M.v_int, M.v_lenL, M.v_lenT, M.v_lenZ, M.v_abs, M.v_max, M.v_min, M.v_neg, M.v_ixL, M.v_ixT, M.v_ixZ, M.v_cutL, M.v_cutT, M.v_tupL, M.v_tupT, M.v_lstL, M.v_lstT, M.tr_bl, M.tr_int, M.tr_lst, M.tr_tup, M.tr_non, M.env0_go, M.g_N, M.g_T, M.g_sC, M.g_sN, M.wipe0, M.wipeS, M.ge_0, M.ge_S, List.set_cons_zero, List.set_cons_succ, List.map_cons, List.map_nil, List.cons_append, List.nil_append, List.length_cons, List.length_nil, Nat.reduceAdd, Nat.reduceSub, List.replicate_succ, List.replicate_zero, Option.bind_some, String.reduceBEq, Int.reduceBEq, Bool.or_self, if_true, if_false, Bool.false_eq_true, Bool.not_true, Bool.not_false, true_and, and_true, decide_true, decide_false, Option.map_some, M.is_non_int, M.is_non_bool, M.is_non_str, M.is_non_tuple, M.is_non_list, M.is_non_dict, M.is_bl_int, M.is_bl_bool, M.is_bl_str, M.is_bl_tuple, M.is_bl_list, M.is_bl_dict, M.is_int_int, M.is_int_bool, M.is_int_str, M.is_int_tuple, M.is_int_list, M.is_int_dict, M.is_str_int, M.is_str_bool, M.is_str_str, M.is_str_tuple, M.is_str_list, M.is_str_dict, M.is_tup_int, M.is_tup_bool, M.is_tup_str, M.is_tup_tuple, M.is_tup_list, M.is_tup_dict, M.is_lst_int, M.is_lst_bool, M.is_lst_str, M.is_lst_tuple, M.is_lst_list, M.is_lst_dict, M.isn_non, M.isn_bl, M.isn_int, M.isn_str, M.isn_tup, M.isn_lst, M.str_beq, M.f_non, M.f_bl, M.f_int, M.f_str, M.fe_str, M.fe_int, M.fe_si, M.fe_is, M.in_tup, M.in_lst, M.nin_tup, M.nin_lst, M.at_0, M.at_1, M.at_2, M.at_3, M.eq_int, M.ne_int, M.eq_bl, M.eq_nil, M.eq_str, M.ne_str, List.all_cons, List.all_nil, List.any_cons, List.any_nil, Bool.and_self, Bool.or_false, Bool.false_or, Bool.or_true, Bool.true_or, Bool.and_true, Bool.true_and, Bool.and_false, Bool.false_and, beq_self_eq_true, bne_self_eq_false, eq_str1 h]
  | succ n ih =>
    intro k d s h hk
    obtain ⟨k, rfl⟩ : ∃ j, k = j + 1 := ⟨k - 1, by omega⟩
    rw [hF]
    apply Ok.eq
    unfold ALIKE
    cases h with
    | non => simp only [M.ok_ok, M.ok_no, M.oko_some, M.ok_eC, M.ok_eV0, M.ok_eVs, M.ok_e1, M.k1, M.ok_e2, M.k2a, M.k2, M.ok_evs0, M.ok_evs, M.kA, M.ok_eTup, M.ok_eLst, M.ok_eB, M.ok_eCall, M.kTup, M.kLst, M.kB, M.kCall, M.ok_eIf, M.kIfE, M.ok_eAnd, M.kAnd, M.ok_eOr, M.kOr, M.ok_eNot, M.kNotE, M.ok_eChain, M.kCh, M.kCh2, M.ok_tOfE, M.kTo, M.ok_tTru, M.kTru, M.ok_tAnd, M.ok_tOr, M.ok_tNot, M.kTAnd, M.kTOr, M.kTNot, M.ok_tYes, M.ok_pNo, M.ok_pSome, M.kPs, M.ok_eCut, M.kCut, M.kCut1, M.kCut2, M.ok_eDGet, M.kDg, M.kDg2, M.ok_sSeq, M.kSeq_nx, M.kSeq_rt, M.kSeq_bk, M.kSeq_ct, M.ok_sSet, M.kSet, M.ok_sAsg, M.kAsg, M.ok_sPar, M.kPar, M.ok_sDrop, M.kDrop, M.ok_sRet, M.kRet, M.ok_sRetN, M.ok_sNext, M.ok_sBrk, M.ok_sCnt, M.ok_sIf, M.kIf, M.kAug, M.kApp, M.ok_sFor, M.kFor, M.ok_fnM, M.kFn_rt, M.kFn_nx, M.ok_iS, M.kIS_lst, M.kIS_tup, M.ok_iR1, M.kR1, M.ok_iR2, M.kR2, M.ok_eLstRg, M.ok_eTupRg, M.kRg, M.ok_rg1, M.kRg1, M.ok_rg2, M.kRg2, M.kRg2b, M.ok_eM1, M.kM1, M.kM1b, M.ok_eComp, M.kComp, M.kComp1, M.ok_eComp2, M.kCompC, M.kCompB, M.ok_eDisp, M.kDisp, M.ok_sAug1, M.ok_sApp1, M.kApp1, M.kIt_nx, M.kIt_ct, M.kIt_bk, M.kIt_rt, M.v_sub, M.v_addI, M.v_addA, M.v_subA, M.v_lt, M.v_le, M.v_gt, M.v_ge, M.v_int, M.v_lenL, M.v_lenT, M.v_lenZ, M.v_abs, M.v_max, M.v_min, M.v_neg, M.v_ixL, M.v_ixT, M.v_ixZ, M.v_cutL, M.v_cutT, M.v_tupL, M.v_tupT, M.v_lstL, M.v_lstT, M.tr_bl, M.tr_int, M.tr_lst, M.tr_tup, M.tr_non, M.env0_go, M.g_N, M.g_T, M.g_sC, M.g_sN, M.wipe0, M.wipeS, M.ge_0, M.ge_S, List.set_cons_zero, List.set_cons_succ, List.map_cons, List.map_nil, List.cons_append, List.nil_append, List.length_cons, List.length_nil, Nat.reduceAdd, Nat.reduceSub, List.replicate_succ, List.replicate_zero, Option.bind_some, String.reduceBEq, Int.reduceBEq, Bool.or_self, if_true, if_false, Bool.false_eq_true, Bool.not_true, Bool.not_false, true_and, and_true, decide_true, decide_false, Option.map_some, M.is_non_int, M.is_non_bool, M.is_non_str, M.is_non_tuple, M.is_non_list, M.is_non_dict, M.is_bl_int, M.is_bl_bool, M.is_bl_str, M.is_bl_tuple, M.is_bl_list, M.is_bl_dict, M.is_int_int, M.is_int_bool, M.is_int_str, M.is_int_tuple, M.is_int_list, M.is_int_dict, M.is_str_int, M.is_str_bool, M.is_str_str, M.is_str_tuple, M.is_str_list, M.is_str_dict, M.is_tup_int, M.is_tup_bool, M.is_tup_str, M.is_tup_tuple, M.is_tup_list, M.is_tup_dict, M.is_lst_int, M.is_lst_bool, M.is_lst_str, M.is_lst_tuple, M.is_lst_list, M.is_lst_dict, M.isn_non, M.isn_bl, M.isn_int, M.isn_str, M.isn_tup, M.isn_lst, M.str_beq, M.f_non, M.f_bl, M.f_int, M.f_str, M.fe_str, M.fe_int, M.fe_si, M.fe_is, M.in_tup, M.in_lst, M.nin_tup, M.nin_lst, M.at_0, M.at_1, M.at_2, M.at_3, M.eq_int, M.ne_int, M.eq_bl, M.eq_nil, M.eq_str, M.ne_str, List.all_cons, List.all_nil, List.any_cons, List.any_nil, Bool.and_self, Bool.or_false, Bool.false_or, Bool.or_true, Bool.true_or, Bool.and_true, Bool.true_and, Bool.and_false, Bool.false_and, beq_self_eq_true, bne_self_eq_false]
    | bl b => simp only [M.ok_ok, M.ok_no, M.oko_some, M.ok_eC, M.ok_eV0, M.ok_eVs, M.ok_e1, M.k1, M.ok_e2, M.k2a, M.k2, M.ok_evs0, M.ok_evs, M.kA, M.ok_eTup, M.ok_eLst, M.ok_eB, M.ok_eCall, M.kTup, M.kLst, M.kB, M.kCall, M.ok_eIf, M.kIfE, M.ok_eAnd, M.kAnd, M.ok_eOr, M.kOr, M.ok_eNot, M.kNotE, M.ok_eChain, M.kCh, M.kCh2, M.ok_tOfE, M.kTo, M.ok_tTru, M.kTru, M.ok_tAnd, M.ok_tOr, M.ok_tNot, M.kTAnd, M.kTOr, M.kTNot, M.ok_tYes, M.ok_pNo, M.ok_pSome, M.kPs, M.ok_eCut, M.kCut, M.kCut1, M.kCut2, M.ok_eDGet, M.kDg, M.kDg2, M.ok_sSeq, M.kSeq_nx, M.kSeq_rt, M.kSeq_bk, M.kSeq_ct, M.ok_sSet, M.kSet, M.ok_sAsg, M.kAsg, M.ok_sPar, M.kPar, M.ok_sDrop, M.kDrop, M.ok_sRet, M.kRet, M.ok_sRetN, M.ok_sNext, M.ok_sBrk, M.ok_sCnt, M.ok_sIf, M.kIf, M.kAug, M.kApp, M.ok_sFor, M.kFor, M.ok_fnM, M.kFn_rt, M.kFn_nx, M.ok_iS, M.kIS_lst, M.kIS_tup, M.ok_iR1, M.kR1, M.ok_iR2, M.kR2, M.ok_eLstRg, M.ok_eTupRg, M.kRg, M.ok_rg1, M.kRg1, M.ok_rg2, M.kRg2, M.kRg2b, M.ok_eM1, M.kM1, M.kM1b, M.ok_eComp, M.kComp, M.kComp1, M.ok_eComp2, M.kCompC, M.kCompB, M.ok_eDisp, M.kDisp, M.ok_sAug1, M.ok_sApp1, M.kApp1, M.kIt_nx, M.kIt_ct, M.kIt_bk, M.kIt_rt, M.v_sub, M.v_addI, M.v_addA, M.v_subA, M.v_lt, M.v_le, M.v_gt, M.v_ge, M.v_int, M.v_lenL, M.v_lenT, M.v_lenZ, M.v_abs, M.v_max, M.v_min, M.v_neg, M.v_ixL, M.v_ixT, M.v_ixZ, M.v_cutL, M.v_cutT, M.v_tupL, M.v_tupT, M.v_lstL, M.v_lstT, M.tr_bl, M.tr_int, M.tr_lst, M.tr_tup, M.tr_non, M.env0_go, M.g_N, M.g_T, M.g_sC, M.g_sN, M.wipe0, M.wipeS, M.ge_0, M.ge_S, List.set_cons_zero, List.set_cons_succ, List.map_cons, List.map_nil, List.cons_append, List.nil_append, List.length_cons, List.length_nil, Nat.reduceAdd, Nat.reduceSub, List.replicate_succ, List.replicate_zero, Option.bind_some, String.reduceBEq, Int.reduceBEq, Bool.or_self, if_true, if_false, Bool.false_eq_true, Bool.not_true, Bool.not_false, true_and, and_true, decide_true, decide_false, Option.map_some, M.is_non_int, M.is_non_bool, M.is_non_str, M.is_non_tuple, M.is_non_list, M.is_non_dict, M.is_bl_int, M.is_bl_bool, M.is_bl_str, M.is_bl_tuple, M.is_bl_list, M.is_bl_dict, M.is_int_int, M.is_int_bool, M.is_int_str, M.is_int_tuple, M.is_int_list, M.is_int_dict, M.is_str_int, M.is_str_bool, M.is_str_str, M.is_str_tuple, M.is_str_list, M.is_str_dict, M.is_tup_int, M.is_tup_bool, M.is_tup_str, M.is_tup_tuple, M.is_tup_list, M.is_tup_dict, M.is_lst_int, M.is_lst_bool, M.is_lst_str, M.is_lst_tuple, M.is_lst_list, M.is_lst_dict, M.isn_non, M.isn_bl, M.isn_int, M.isn_str, M.isn_tup, M.isn_lst, M.str_beq, M.f_non, M.f_bl, M.f_int, M.f_str, M.fe_str, M.fe_int, M.fe_si, M.fe_is, M.in_tup, M.in_lst, M.nin_tup, M.nin_lst, M.at_0, M.at_1, M.at_2, M.at_3, M.eq_int, M.ne_int, M.eq_bl, M.eq_nil, M.eq_str, M.ne_str, List.all_cons, List.all_nil, List.any_cons, List.any_nil, Bool.and_self, Bool.or_false, Bool.false_or, Bool.or_true, Bool.true_or, Bool.and_true, Bool.true_and, Bool.and_false, Bool.false_and, beq_self_eq_true, bne_self_eq_false]
    | int i => simp only [M.ok_ok, M.ok_no, M.oko_some, M.ok_eC, M.ok_eV0, M.ok_eVs, M.ok_e1, M.k1, M.ok_e2, M.k2a, M.k2, M.ok_evs0, M.ok_evs, M.kA, M.ok_eTup, M.ok_eLst, M.ok_eB, M.ok_eCall, M.kTup, M.kLst, M.kB, M.kCall, M.ok_eIf, M.kIfE, M.ok_eAnd, M.kAnd, M.ok_eOr, M.kOr, M.ok_eNot, M.kNotE, M.ok_eChain, M.kCh, M.kCh2, M.ok_tOfE, M.kTo, M.ok_tTru, M.kTru, M.ok_tAnd, M.ok_tOr, M.ok_tNot, M.kTAnd, M.kTOr, M.kTNot, M.ok_tYes, M.ok_pNo, M.ok_pSome, M.kPs, M.ok_eCut, M.kCut, M.kCut1, M.kCut2, M.ok_eDGet, M.kDg, M.kDg2, M.ok_sSeq, M.kSeq_nx, M.kSeq_rt, M.kSeq_bk, M.kSeq_ct, M.ok_sSet, M.kSet, M.ok_sAsg, M.kAsg, M.ok_sPar, M.kPar, M.ok_sDrop, M.kDrop, M.ok_sRet, M.kRet, M.ok_sRetN, M.ok_sNext, M.ok_sBrk, M.ok_sCnt, M.ok_sIf, M.kIf, M.kAug, M.kApp, M.ok_sFor, M.kFor, M.ok_fnM, M.kFn_rt, M.kFn_nx, M.ok_iS, M.kIS_lst, M.kIS_tup, M.ok_iR1, M.kR1, M.ok_iR2, M.kR2, M.ok_eLstRg, M.ok_eTupRg, M.kRg, M.ok_rg1, M.kRg1, M.ok_rg2, M.kRg2, M.kRg2b, M.ok_eM1, M.kM1, M.kM1b, M.ok_eComp, M.kComp, M.kComp1, M.ok_eComp2, M.kCompC, M.kCompB, M.ok_eDisp, M.kDisp, M.ok_sAug1, M.ok_sApp1, M.kApp1, M.kIt_nx, M.kIt_ct, M.kIt_bk, M.kIt_rt, M.v_sub, M.v_addI, M.v_addA, M.v_subA, M.v_lt, M.v_le, M.v_gt, M.v_ge, M.v_int, M.v_lenL, M.v_lenT, M.v_lenZ, M.v_abs, M.v_max, M.v_min, M.v_neg, M.v_ixL, M.v_ixT, M.v_ixZ, M.v_cutL, M.v_cutT, M.v_tupL, M.v_tupT, M.v_lstL, M.v_lstT, M.tr_bl, M.tr_int, M.tr_lst, M.tr_tup, M.tr_non, M.env0_go, M.g_N, M.g_T, M.g_sC, M.g_sN, M.wipe0, M.wipeS, M.ge_0, M.ge_S, List.set_cons_zero, List.set_cons_succ, List.map_cons, List.map_nil, List.cons_append, List.nil_append, List.length_cons, List.length_nil, Nat.reduceAdd, Nat.reduceSub, List.replicate_succ, List.replicate_zero, Option.bind_some, String.reduceBEq, Int.reduceBEq, Bool.or_self, if_true, if_false, Bool.false_eq_true, Bool.not_true, Bool.not_false, true_and, and_true, decide_true, decide_false, Option.map_some, M.is_non_int, M.is_non_bool, M.is_non_str, M.is_non_tuple, M.is_non_list, M.is_non_dict, M.is_bl_int, M.is_bl_bool, M.is_bl_str, M.is_bl_tuple, M.is_bl_list, M.is_bl_dict, M.is_int_int, M.is_int_bool, M.is_int_str, M.is_int_tuple, M.is_int_list, M.is_int_dict, M.is_str_int, M.is_str_bool, M.is_str_str, M.is_str_tuple, M.is_str_list, M.is_str_dict, M.is_tup_int, M.is_tup_bool, M.is_tup_str, M.is_tup_tuple, M.is_tup_list, M.is_tup_dict, M.is_lst_int, M.is_lst_bool, M.is_lst_str, M.is_lst_tuple, M.is_lst_list, M.is_lst_dict, M.isn_non, M.isn_bl, M.isn_int, M.isn_str, M.isn_tup, M.isn_lst, M.str_beq, M.f_non, M.f_bl, M.f_int, M.f_str, M.fe_str, M.fe_int, M.fe_si, M.fe_is, M.in_tup, M.in_lst, M.nin_tup, M.nin_lst, M.at_0, M.at_1, M.at_2, M.at_3, M.eq_int, M.ne_int, M.eq_bl, M.eq_nil, M.eq_str, M.ne_str, List.all_cons, List.all_nil, List.any_cons, List.any_nil, Bool.and_self, Bool.or_false, Bool.false_or, Bool.or_true, Bool.true_or, Bool.and_true, Bool.true_and, Bool.and_false, Bool.false_and, beq_self_eq_true, bne_self_eq_false]
    | str h => simp only [M.ok_ok, M.ok_no, M.oko_some, M.ok_eC, M.ok_eV0, M.ok_eVs, M.ok_e1, M.k1, M.ok_e2, M.k2a, M.k2, M.ok_evs0, M.ok_evs, M.kA, M.ok_eTup, M.ok_eLst, M.ok_eB, M.ok_eCall, M.kTup, M.kLst, M.kB, M.kCall, M.ok_eIf, M.kIfE, M.ok_eAnd, M.kAnd, M.ok_eOr, M.kOr, M.ok_eNot, M.kNotE, M.ok_eChain, M.kCh, M.kCh2, M.ok_tOfE, M.kTo, M.ok_tTru, M.kTru, M.ok_tAnd, M.ok_tOr, M.ok_tNot, M.kTAnd, M.kTOr, M.kTNot, M.ok_tYes, M.ok_pNo, M.ok_pSome, M.kPs, M.ok_eCut, M.kCut, M.kCut1, M.kCut2, M.ok_eDGet, M.kDg, M.kDg2, M.ok_sSeq, M.kSeq_nx, M.kSeq_rt, M.kSeq_bk, M.kSeq_ct, M.ok_sSet, M.kSet, M.ok_sAsg, M.kAsg, M.ok_sPar, M.kPar, M.ok_sDrop, M.kDrop, M.ok_sRet, M.kRet, M.ok_sRetN, M.ok_sNext, M.ok_sBrk, M.ok_sCnt, M.ok_sIf, M.kIf, M.kAug, M.kApp, M.ok_sFor, M.kFor, M.ok_fnM, M.kFn_rt, M.kFn_nx, M.ok_iS, M.kIS_lst, M.kIS_tup, M.ok_iR1, M.kR1, M.ok_iR2, M.kR2, M.ok_eLstRg, M.ok_eTupRg, M.kRg, M.ok_rg1, M.kRg1, M.ok_rg2, M.kRg2, M.kRg2b, M.ok_eM1, M.kM1, M.kM1b, M.ok_eComp, M.kComp, M.kComp1, M.ok_eComp2, M.kCompC, M.kCompB, M.ok_eDisp, M.kDisp, M.ok_sAug1, M.ok_sApp1, M.kApp1, M.kIt_nx, M.kIt_ct, M.kIt_bk, M.kIt_rt, M.v_sub, M.v_addI, M.v_addA, M.v_subA, M.v_lt, M.v_le, M.v_gt, M.v_ge, M.v_int, M.v_lenL, M.v_lenT, M.v_lenZ, M.v_abs, M.v_max, M.v_min, M.v_neg, M.v_ixL, M.v_ixT, M.v_ixZ, M.v_cutL, M.v_cutT, M.v_tupL, M.v_tupT, M.v_lstL, M.v_lstT, M.tr_bl, M.tr_int, M.tr_lst, M.tr_tup, M.tr_non, M.env0_go, M.g_N, M.g_T, M.g_sC, M.g_sN, M.wipe0, M.wipeS, M.ge_0, M.ge_S, List.set_cons_zero, List.set_cons_succ, List.map_cons, List.map_nil, List.cons_append, List.nil_append, List.length_cons, List.length_nil, Nat.reduceAdd, Nat.reduceSub, List.replicate_succ, List.replicate_zero, Option.bind_some, String.reduceBEq, Int.reduceBEq, Bool.or_self, if_true, if_false, Bool.false_eq_true, Bool.not_true, Bool.not_false, true_and, and_true, decide_true, decide_false, Option.map_some, M.is_non_int, M.is_non_bool, M.is_non_str, M.is_non_tuple, M.is_non_list, M.is_non_dict, M.is_bl_int, M.is_bl_bool, M.is_bl_str, M.is_bl_tuple, M.is_bl_list, M.is_bl_dict, M.is_int_int, M.is_int_bool, M.is_int_str, M.is_int_tuple, M.is_int_list, M.is_int_dict, M.is_str_int, M.is_str_bool, M.is_str_str, M.is_str_tuple, M.is_str_list, M.is_str_dict, M.is_tup_int, M.is_tup_bool, M.is_tup_str, M.is_tup_tuple, M.is_tup_list, M.is_tup_dict, M.is_lst_int, M.is_lst_bool, M.is_lst_str, M.is_lst_tuple, M.is_lst_list, M.is_lst_dict, M.isn_non, M.isn_bl, M.isn_int, M.isn_str, M.isn_tup, M.isn_lst, M.str_beq, M.f_non, M.f_bl, M.f_int, M.f_str, M.fe_str, M.fe_int, M.fe_si, M.fe_is, M.in_tup, M.in_lst, M.nin_tup, M.nin_lst, M.at_0, M.at_1, M.at_2, M.at_3, M.eq_int, M.ne_int, M.eq_bl, M.eq_nil, M.eq_str, M.ne_str, List.all_cons, List.all_nil, List.any_cons, List.any_nil, Bool.and_self, Bool.or_false, Bool.false_or, Bool.or_true, Bool.true_or, Bool.and_true, Bool.true_and, Bool.and_false, Bool.false_and, beq_self_eq_true, bne_self_eq_false, eq_str1 h]
    | tup l h =>
      rename_i ds
      simp only [M.ok_ok, M.ok_no, M.oko_some, M.ok_eC, M.ok_eV0, M.ok_eVs, M.ok_e1, M.k1, M.ok_e2, M.k2a, M.k2, M.ok_evs0, M.ok_evs, M.kA, M.ok_eTup, M.ok_eLst, M.ok_eB, M.ok_eCall, M.kTup, M.kLst, M.kB, M.kCall, M.ok_eIf, M.kIfE, M.ok_eAnd, M.kAnd, M.ok_eOr, M.kOr, M.ok_eNot, M.kNotE, M.ok_eChain, M.kCh, M.kCh2, M.ok_tOfE, M.kTo, M.ok_tTru, M.kTru, M.ok_tAnd, M.ok_tOr, M.ok_tNot, M.kTAnd, M.kTOr, M.kTNot, M.ok_tYes, M.ok_pNo, M.ok_pSome, M.kPs, M.ok_eCut, M.kCut, M.kCut1, M.kCut2, M.ok_eDGet, M.kDg, M.kDg2, M.ok_sSeq, M.kSeq_nx, M.kSeq_rt, M.kSeq_bk, M.kSeq_ct, M.ok_sSet, M.kSet, M.ok_sAsg, M.kAsg, M.ok_sPar, M.kPar, M.ok_sDrop, M.kDrop, M.ok_sRet, M.kRet, M.ok_sRetN, M.ok_sNext, M.ok_sBrk, M.ok_sCnt, M.ok_sIf, M.kIf, M.kAug, M.kApp, M.ok_sFor, M.kFor, M.ok_fnM, M.kFn_rt, M.kFn_nx, M.ok_iS, M.kIS_lst, M.kIS_tup, M.ok_iR1, M.kR1, M.ok_iR2, M.kR2, M.ok_eLstRg, M.ok_eTupRg, M.kRg, M.ok_rg1, M.kRg1, M.ok_rg2, M.kRg2, M.kRg2b, M.ok_eM1, M.kM1, M.kM1b, M.ok_eComp, M.kComp, M.kComp1, M.ok_eComp2, M.kCompC, M.kCompB, M.ok_eDisp, M.kDisp, M.ok_sAug1, M.ok_sApp1, M.kApp1, M.kIt_nx, M.kIt_ct, M.kIt_bk, M.kIt_rt, M.v_sub, M.v_addI, M.v_addA, M.v_subA, M.v_lt, M.v_le, M.v_gt, M.v_ge, M.v_int, M.v_lenL, M.v_lenT, M.v_lenZ, M.v_abs, M.v_max, M.v_min, M.v_neg, M.v_ixL, M.v_ixT, M.v_ixZ, M.v_cutL, M.v_cutT, M.v_tupL, M.v_tupT, M.v_lstL, M.v_lstT, M.tr_bl, M.tr_int, M.tr_lst, M.tr_tup, M.tr_non, M.env0_go, M.g_N, M.g_T, M.g_sC, M.g_sN, M.wipe0, M.wipeS, M.ge_0, M.ge_S, List.set_cons_zero, List.set_cons_succ, List.map_cons, List.map_nil, List.cons_append, List.nil_append, List.length_cons, List.length_nil, Nat.reduceAdd, Nat.reduceSub, List.replicate_succ, List.replicate_zero, Option.bind_some, String.reduceBEq, Int.reduceBEq, Bool.or_self, if_true, if_false, Bool.false_eq_true, Bool.not_true, Bool.not_false, true_and, and_true, decide_true, decide_false, Option.map_some, M.is_non_int, M.is_non_bool, M.is_non_str, M.is_non_tuple, M.is_non_list, M.is_non_dict, M.is_bl_int, M.is_bl_bool, M.is_bl_str, M.is_bl_tuple, M.is_bl_list, M.is_bl_dict, M.is_int_int, M.is_int_bool, M.is_int_str, M.is_int_tuple, M.is_int_list, M.is_int_dict, M.is_str_int, M.is_str_bool, M.is_str_str, M.is_str_tuple, M.is_str_list, M.is_str_dict, M.is_tup_int, M.is_tup_bool, M.is_tup_str, M.is_tup_tuple, M.is_tup_list, M.is_tup_dict, M.is_lst_int, M.is_lst_bool, M.is_lst_str, M.is_lst_tuple, M.is_lst_list, M.is_lst_dict, M.isn_non, M.isn_bl, M.isn_int, M.isn_str, M.isn_tup, M.isn_lst, M.str_beq, M.f_non, M.f_bl, M.f_int, M.f_str, M.fe_str, M.fe_int, M.fe_si, M.fe_is, M.in_tup, M.in_lst, M.nin_tup, M.nin_lst, M.at_0, M.at_1, M.at_2, M.at_3, M.eq_int, M.ne_int, M.eq_bl, M.eq_nil, M.eq_str, M.ne_str, List.all_cons, List.all_nil, List.any_cons, List.any_nil, Bool.and_self, Bool.or_false, Bool.false_or, Bool.or_true, Bool.true_or, Bool.and_true, Bool.true_and, Bool.and_false, Bool.false_and, beq_self_eq_true, bne_self_eq_false]
      refine ⟨by omega, ?_⟩
      refine Ok.of (comp_f (fun _ => false) id fun d hd => ?_) ?_
      · unfold rngD at hd
        obtain ⟨i, hi, rfl⟩ := List.mem_map.mp hd
        have hi := List.mem_range.mp hi
        have hi' : i < ds.length := by omega
        have e0 : (0 : Int) + (i : Nat) = (i : Nat) := by omega
        simp only [M.ok_ok, M.ok_no, M.oko_some, M.ok_eC, M.ok_eV0, M.ok_eVs, M.ok_e1, M.k1, M.ok_e2, M.k2a, M.k2, M.ok_evs0, M.ok_evs, M.kA, M.ok_eTup, M.ok_eLst, M.ok_eB, M.ok_eCall, M.kTup, M.kLst, M.kB, M.kCall, M.ok_eIf, M.kIfE, M.ok_eAnd, M.kAnd, M.ok_eOr, M.kOr, M.ok_eNot, M.kNotE, M.ok_eChain, M.kCh, M.kCh2, M.ok_tOfE, M.kTo, M.ok_tTru, M.kTru, M.ok_tAnd, M.ok_tOr, M.ok_tNot, M.kTAnd, M.kTOr, M.kTNot, M.ok_tYes, M.ok_pNo, M.ok_pSome, M.kPs, M.ok_eCut, M.kCut, M.kCut1, M.kCut2, M.ok_eDGet, M.kDg, M.kDg2, M.ok_sSeq, M.kSeq_nx, M.kSeq_rt, M.kSeq_bk, M.kSeq_ct, M.ok_sSet, M.kSet, M.ok_sAsg, M.kAsg, M.ok_sPar, M.kPar, M.ok_sDrop, M.kDrop, M.ok_sRet, M.kRet, M.ok_sRetN, M.ok_sNext, M.ok_sBrk, M.ok_sCnt, M.ok_sIf, M.kIf, M.kAug, M.kApp, M.ok_sFor, M.kFor, M.ok_fnM, M.kFn_rt, M.kFn_nx, M.ok_iS, M.kIS_lst, M.kIS_tup, M.ok_iR1, M.kR1, M.ok_iR2, M.kR2, M.ok_eLstRg, M.ok_eTupRg, M.kRg, M.ok_rg1, M.kRg1, M.ok_rg2, M.kRg2, M.kRg2b, M.ok_eM1, M.kM1, M.kM1b, M.ok_eComp, M.kComp, M.kComp1, M.ok_eComp2, M.kCompC, M.kCompB, M.ok_eDisp, M.kDisp, M.ok_sAug1, M.ok_sApp1, M.kApp1, M.kIt_nx, M.kIt_ct, M.kIt_bk, M.kIt_rt, M.v_sub, M.v_addI, M.v_addA, M.v_subA, M.v_lt, M.v_le, M.v_gt, M.v_ge, M.v_int, M.v_lenL, M.v_lenT, M.v_lenZ, M.v_abs, M.v_max, M.v_min, M.v_neg, M.v_ixL, M.v_ixT, M.v_ixZ, M.v_cutL, M.v_cutT, M.v_tupL, M.v_tupT, M.v_lstL, M.v_lstT, M.tr_bl, M.tr_int, M.tr_lst, M.tr_tup, M.tr_non, M.env0_go, M.g_N, M.g_T, M.g_sC, M.g_sN, M.wipe0, M.wipeS, M.ge_0, M.ge_S, List.set_cons_zero, List.set_cons_succ, List.map_cons, List.map_nil, List.cons_append, List.nil_append, List.length_cons, List.length_nil, Nat.reduceAdd, Nat.reduceSub, List.replicate_succ, List.replicate_zero, Option.bind_some, String.reduceBEq, Int.reduceBEq, Bool.or_self, if_true, if_false, Bool.false_eq_true, Bool.not_true, Bool.not_false, true_and, and_true, decide_true, decide_false, Option.map_some, M.is_non_int, M.is_non_bool, M.is_non_str, M.is_non_tuple, M.is_non_list, M.is_non_dict, M.is_bl_int, M.is_bl_bool, M.is_bl_str, M.is_bl_tuple, M.is_bl_list, M.is_bl_dict, M.is_int_int, M.is_int_bool, M.is_int_str, M.is_int_tuple, M.is_int_list, M.is_int_dict, M.is_str_int, M.is_str_bool, M.is_str_str, M.is_str_tuple, M.is_str_list, M.is_str_dict, M.is_tup_int, M.is_tup_bool, M.is_tup_str, M.is_tup_tuple, M.is_tup_list, M.is_tup_dict, M.is_lst_int, M.is_lst_bool, M.is_lst_str, M.is_lst_tuple, M.is_lst_list, M.is_lst_dict, M.isn_non, M.isn_bl, M.isn_int, M.isn_str, M.isn_tup, M.isn_lst, M.str_beq, M.f_non, M.f_bl, M.f_int, M.f_str, M.fe_str, M.fe_int, M.fe_si, M.fe_is, M.in_tup, M.in_lst, M.nin_tup, M.nin_lst, M.at_0, M.at_1, M.at_2, M.at_3, M.eq_int, M.ne_int, M.eq_bl, M.eq_nil, M.eq_str, M.ne_str, List.all_cons, List.all_nil, List.any_cons, List.any_nil, Bool.and_self, Bool.or_false, Bool.false_or, Bool.or_true, Bool.true_or, Bool.and_true, Bool.true_and, Bool.and_false, Bool.false_and, beq_self_eq_true, bne_self_eq_false, e0, atI_nat hi', ih k ds[i] s (h _ (List.getElem_mem hi')) (by omega)]
        exact False.elim
      · rw [show (rngD 0 (ds.length : Int).toNat).filter (fun _ => false) = [] from by simp, List.map_nil]
        simp only [M.ok_ok, M.ok_no, M.oko_some, M.ok_eC, M.ok_eV0, M.ok_eVs, M.ok_e1, M.k1, M.ok_e2, M.k2a, M.k2, M.ok_evs0, M.ok_evs, M.kA, M.ok_eTup, M.ok_eLst, M.ok_eB, M.ok_eCall, M.kTup, M.kLst, M.kB, M.kCall, M.ok_eIf, M.kIfE, M.ok_eAnd, M.kAnd, M.ok_eOr, M.kOr, M.ok_eNot, M.kNotE, M.ok_eChain, M.kCh, M.kCh2, M.ok_tOfE, M.kTo, M.ok_tTru, M.kTru, M.ok_tAnd, M.ok_tOr, M.ok_tNot, M.kTAnd, M.kTOr, M.kTNot, M.ok_tYes, M.ok_pNo, M.ok_pSome, M.kPs, M.ok_eCut, M.kCut, M.kCut1, M.kCut2, M.ok_eDGet, M.kDg, M.kDg2, M.ok_sSeq, M.kSeq_nx, M.kSeq_rt, M.kSeq_bk, M.kSeq_ct, M.ok_sSet, M.kSet, M.ok_sAsg, M.kAsg, M.ok_sPar, M.kPar, M.ok_sDrop, M.kDrop, M.ok_sRet, M.kRet, M.ok_sRetN, M.ok_sNext, M.ok_sBrk, M.ok_sCnt, M.ok_sIf, M.kIf, M.kAug, M.kApp, M.ok_sFor, M.kFor, M.ok_fnM, M.kFn_rt, M.kFn_nx, M.ok_iS, M.kIS_lst, M.kIS_tup, M.ok_iR1, M.kR1, M.ok_iR2, M.kR2, M.ok_eLstRg, M.ok_eTupRg, M.kRg, M.ok_rg1, M.kRg1, M.ok_rg2, M.kRg2, M.kRg2b, M.ok_eM1, M.kM1, M.kM1b, M.ok_eComp, M.kComp, M.kComp1, M.ok_eComp2, M.kCompC, M.kCompB, M.ok_eDisp, M.kDisp, M.ok_sAug1, M.ok_sApp1, M.kApp1, M.kIt_nx, M.kIt_ct, M.kIt_bk, M.kIt_rt, M.v_sub, M.v_addI, M.v_addA, M.v_subA, M.v_lt, M.v_le, M.v_gt, M.v_ge, M.v_int, M.v_lenL, M.v_lenT, M.v_lenZ, M.v_abs, M.v_max, M.v_min, M.v_neg, M.v_ixL, M.v_ixT, M.v_ixZ, M.v_cutL, M.v_cutT, M.v_tupL, M.v_tupT, M.v_lstL, M.v_lstT, M.tr_bl, M.tr_int, M.tr_lst, M.tr_tup, M.tr_non, M.env0_go, M.g_N, M.g_T, M.g_sC, M.g_sN, M.wipe0, M.wipeS, M.ge_0, M.ge_S, List.set_cons_zero, List.set_cons_succ, List.map_cons, List.map_nil, List.cons_append, List.nil_append, List.length_cons, List.length_nil, Nat.reduceAdd, Nat.reduceSub, List.replicate_succ, List.replicate_zero, Option.bind_some, String.reduceBEq, Int.reduceBEq, Bool.or_self, if_true, if_false, Bool.false_eq_true, Bool.not_true, Bool.not_false, true_and, and_true, decide_true, decide_false, Option.map_some, M.is_non_int, M.is_non_bool, M.is_non_str, M.is_non_tuple, M.is_non_list, M.is_non_dict, M.is_bl_int, M.is_bl_bool, M.is_bl_str, M.is_bl_tuple, M.is_bl_list, M.is_bl_dict, M.is_int_int, M.is_int_bool, M.is_int_str, M.is_int_tuple, M.is_int_list, M.is_int_dict, M.is_str_int, M.is_str_bool, M.is_str_str, M.is_str_tuple, M.is_str_list, M.is_str_dict, M.is_tup_int, M.is_tup_bool, M.is_tup_str, M.is_tup_tuple, M.is_tup_list, M.is_tup_dict, M.is_lst_int, M.is_lst_bool, M.is_lst_str, M.is_lst_tuple, M.is_lst_list, M.is_lst_dict, M.isn_non, M.isn_bl, M.isn_int, M.isn_str, M.isn_tup, M.isn_lst, M.str_beq, M.f_non, M.f_bl, M.f_int, M.f_str, M.fe_str, M.fe_int, M.fe_si, M.fe_is, M.in_tup, M.in_lst, M.nin_tup, M.nin_lst, M.at_0, M.at_1, M.at_2, M.at_3, M.eq_int, M.ne_int, M.eq_bl, M.eq_nil, M.eq_str, M.ne_str, List.all_cons, List.all_nil, List.any_cons, List.any_nil, Bool.and_self, Bool.or_false, Bool.false_or, Bool.or_true, Bool.true_or, Bool.and_true, Bool.true_and, Bool.and_false, Bool.false_and, beq_self_eq_true, bne_self_eq_false]
end M
/-! P4: more reckoning: concrete lists, picks, cuts. -/
namespace M
open PySem PySem.Spec PyProof.Rows L2
section
variable {QA : List D → Sto → Prop} {QS : Out → Sto → Prop} {ρ : Env} {s : Sto}
theorem ok_nox {α : Type} {r : Res α} {Q : α → Sto → Prop} : Ok r.nox Q = Ok r Q := by cases r <;> with_unfolding_all rfl
def KCe (mg : MG) (mt : MT) (me : ME) (ρ : Env) (ds : List D) (Q : List D → Sto → Prop) : D → Sto → Prop := fun y s => Ok (compL mg mt me ρ ds s) fun ys s => Q (y :: ys) s
def KCt (mg : MG) (mt : MT) (me : ME) (ρ ρ1 : Env) (ds : List D) (Q : List D → Sto → Prop) : Bool → Sto → Prop := fun b s => if b = true then Ok (me ρ1 s) (KCe mg mt me ρ ds Q) else Ok (compL mg mt me ρ ds s) Q
theorem ok_comp0 {mg : MG} {mt : MT} {me : ME} : Ok (compL mg mt me ρ [] s) QA = QA [] s := nr (by with_unfolding_all rfl)
theorem ok_compS {mg : MG} {mt : MT} {me : ME} {d : D} {ds : List D} : Ok (compL mg mt me ρ (d :: ds) s) QA = OkO (mg d ρ) fun ρ1 => Ok (mt ρ1 s) (KCt mg mt me ρ ρ1 ds QA) := by
  conv => lhs; unfold compL
  cases mg d ρ with
  | none => rw [ok_no, oko_none]
  | some ρ1 =>
    rw [oko_some]
    show Ok ((mt ρ1 s).nox.bind _) QA = _
    rw [ok_bind, ok_nox]
    congr
    funext b s1
    unfold KCt
    cases b with
    | false => rfl
    | true =>
      simp only [if_true]
      rw [ok_bind, ok_nox]
      congr
      funext y s2
      rw [ok_bind]
      unfold KCe
      congr
      funext ys s3
      rw [ok_ok]
theorem kCe {mg : MG} {mt : MT} {me : ME} {ds : List D} {y : D} : KCe mg mt me ρ ds QA y s = Ok (compL mg mt me ρ ds s) fun ys s => QA (y :: ys) s := nr rfl
theorem kCt {mg : MG} {mt : MT} {me : ME} {ρ1 : Env} {ds : List D} {b : Bool} : KCt mg mt me ρ ρ1 ds QA b s = if b = true then Ok (me ρ1 s) (KCe mg mt me ρ ds QA) else Ok (compL mg mt me ρ ds s) QA := nr rfl
theorem kForT_nx {mg : MG} {b : MS} {ds : List D} : KForT mg b ds QS (.nx ρ) s = Ok (forD mg b ds ρ s) QS := nr rfl
theorem kForT_ct {mg : MG} {b : MS} {ds : List D} : KForT mg b ds QS (.ct ρ) s = Ok (forD mg b ds ρ s) QS := nr rfl
theorem kForT_bk {mg : MG} {b : MS} {ds : List D} : KForT mg b ds QS (.bk ρ) s = QS (.nx ρ) s := nr rfl
theorem kForT_rt {mg : MG} {b : MS} {ds : List D} {d : D} : KForT mg b ds QS (.rt d) s = QS (.rt d) s := nr rfl
end
theorem comp_st {mg : MG} {me : ME} {ρ : Env} {lo : Int} {n : Nat} (S : Nat → Sto) (f : Nat → D) (h : ∀ i : Nat, i < n → OkO (mg (.int (lo + (i : Nat))) ρ) fun ρ1 => Ok (me ρ1 (S i)) fun y s2 => y = f i ∧ s2 = S (i + 1)) :
    compL mg tYesM me ρ (rngD lo n) (S 0) = .ok ((List.range n).map f) (S n) := by
  suffices g : ∀ m i, i + m = n → compL mg tYesM me ρ (rngD (lo + (i : Nat)) m) (S i) = .ok ((List.range m).map fun j => f (i + j)) (S n) by
    have := g n 0 (by omega)
    simpa using this
  intro m
  induction m with
  | zero => intro i e; rw [show n = i by omega]; rfl
  | succ m ih =>
    intro i e
    apply Ok.eq
    rw [rngD_cons, ok_compS]
    have h1 := h i (by omega)
    cases q : mg (.int (lo + (i : Nat))) ρ with
    | none => rw [q, oko_none] at h1; exact h1.elim
    | some ρ1 =>
      rw [q, oko_some] at h1
      rw [oko_some, ok_tYes, kCt, if_pos rfl]
      refine Ok.mono h1 fun y s2 e => ?_
      obtain ⟨rfl, rfl⟩ := e
      rw [kCe, show lo + (i : Nat) + 1 = lo + ((i + 1 : Nat) : Int) by omega, ih (i + 1) (by omega), ok_ok]
      refine ⟨?_, rfl⟩
      rw [List.range_succ_eq_map, List.map_cons, List.map_map]
      congr 1
      refine List.map_congr_left fun j _ => ?_
      simp only [Function.comp]
      congr 1
      omega
/-! ### picks -/
def PICK (g : List D → Sto → Res D) : MS := (sRet (e2 oIx (eV 1) (eCall g [(eV 0), (e1 oLen (eV 1))])))
theorem pick_eq {g : List D → Sto → Res D} {xs : List Int} {a : Nat} {t : Sto} {ds : List D} (hg : ∀ m : Int, 0 < m → g [.ref 0, .int m] (Sd xs a t) = .ok (.int (nxt xs a m)) (Sd xs (a + 1) t)) (h : ds ≠ []) :
    fnM 2 (PICK g) [.ref 0, .lst ds] (Sd xs a t) = .ok (ds.getD (nxt xs a ds.length).toNat .non) (Sd xs (a + 1) t) := by
  have l : 0 < (ds.length : Int) := by cases ds with
    | nil => exact absurd rfl h
    | cons => simp only [List.length_cons]; omega
  have h0 := nxt_0 (xs := xs) (a := a) l
  have h1 := nxt_lt (xs := xs) (a := a) l
  obtain ⟨n, hn⟩ := Int.eq_ofNat_of_zero_le h0
  rw [hn] at h1 ⊢
  have h2 : n < ds.length := by omega
  apply Ok.eq
  unfold PICK
  simp only [M.ok_ok, M.ok_no, M.oko_some, M.ok_eC, M.ok_eV0, M.ok_eVs, M.ok_e1, M.k1, M.ok_e2, M.k2a, M.k2, M.ok_evs0, M.ok_evs, M.kA, M.ok_eTup, M.ok_eLst, M.ok_eB, M.ok_eCall, M.kTup, M.kLst, M.kB, M.kCall, M.ok_eIf, M.kIfE, M.ok_eAnd, M.kAnd, M.ok_eOr, M.kOr, M.ok_eNot, M.kNotE, M.ok_eChain, M.kCh, M.kCh2, M.ok_tOfE, M.kTo, M.ok_tTru, M.kTru, M.ok_tAnd, M.ok_tOr, M.ok_tNot, M.kTAnd, M.kTOr, M.kTNot, M.ok_tYes, M.ok_pNo, M.ok_pSome, M.kPs, M.ok_eCut, M.kCut, M.kCut1, M.kCut2, M.ok_eDGet, M.kDg, M.kDg2, M.ok_sSeq, M.kSeq_nx, M.kSeq_rt, M.kSeq_bk, M.kSeq_ct, M.ok_sSet, M.kSet, M.ok_sAsg, M.kAsg, M.ok_sPar, M.kPar, M.ok_sDrop, M.kDrop, M.ok_sRet, M.kRet, M.ok_sRetN, M.ok_sNext, M.ok_sBrk, M.ok_sCnt, M.ok_sIf, M.kIf, M.kAug, M.kApp, M.ok_sFor, M.kFor, M.ok_fnM, M.kFn_rt, M.kFn_nx, M.ok_iS, M.kIS_lst, M.kIS_tup, M.ok_iR1, M.kR1, M.ok_iR2, M.kR2, M.ok_eLstRg, M.ok_eTupRg, M.kRg, M.ok_rg1, M.kRg1, M.ok_rg2, M.kRg2, M.kRg2b, M.ok_eM1, M.kM1, M.kM1b, M.ok_eComp, M.kComp, M.kComp1, M.ok_eComp2, M.kCompC, M.kCompB, M.ok_eDisp, M.kDisp, M.ok_sAug1, M.ok_sApp1, M.kApp1, M.kIt_nx, M.kIt_ct, M.kIt_bk, M.kIt_rt, M.v_sub, M.v_addI, M.v_addA, M.v_subA, M.v_lt, M.v_le, M.v_gt, M.v_ge, M.v_int, M.v_lenL, M.v_lenT, M.v_lenZ, M.v_abs, M.v_max, M.v_min, M.v_neg, M.v_ixL, M.v_ixT, M.v_ixZ, M.v_cutL, M.v_cutT, M.v_tupL, M.v_tupT, M.v_lstL, M.v_lstT, M.tr_bl, M.tr_int, M.tr_lst, M.tr_tup, M.tr_non, M.env0_go, M.g_N, M.g_T, M.g_sC, M.g_sN, M.wipe0, M.wipeS, M.ge_0, M.ge_S, List.set_cons_zero, List.set_cons_succ, List.map_cons, List.map_nil, List.cons_append, List.nil_append, List.length_cons, List.length_nil, Nat.reduceAdd, Nat.reduceSub, List.replicate_succ, List.replicate_zero, Option.bind_some, String.reduceBEq, Int.reduceBEq, Bool.or_self, if_true, if_false, Bool.false_eq_true, Bool.not_true, Bool.not_false, true_and, and_true, decide_true, decide_false, Option.map_some, M.is_non_int, M.is_non_bool, M.is_non_str, M.is_non_tuple, M.is_non_list, M.is_non_dict, M.is_bl_int, M.is_bl_bool, M.is_bl_str, M.is_bl_tuple, M.is_bl_list, M.is_bl_dict, M.is_int_int, M.is_int_bool, M.is_int_str, M.is_int_tuple, M.is_int_list, M.is_int_dict, M.is_str_int, M.is_str_bool, M.is_str_str, M.is_str_tuple, M.is_str_list, M.is_str_dict, M.is_tup_int, M.is_tup_bool, M.is_tup_str, M.is_tup_tuple, M.is_tup_list, M.is_tup_dict, M.is_lst_int, M.is_lst_bool, M.is_lst_str, M.is_lst_tuple, M.is_lst_list, M.is_lst_dict, M.isn_non, M.isn_bl, M.isn_int, M.isn_str, M.isn_tup, M.isn_lst, M.str_beq, M.f_non, M.f_bl, M.f_int, M.f_str, M.fe_str, M.fe_int, M.fe_si, M.fe_is, M.in_tup, M.in_lst, M.nin_tup, M.nin_lst, M.at_0, M.at_1, M.at_2, M.at_3, M.eq_int, M.ne_int, M.eq_bl, M.eq_nil, M.eq_str, M.ne_str, List.all_cons, List.all_nil, List.any_cons, List.any_nil, Bool.and_self, Bool.or_false, Bool.false_or, Bool.or_true, Bool.true_or, Bool.and_true, Bool.true_and, Bool.and_false, Bool.false_and, beq_self_eq_true, bne_self_eq_false, hg _ l, hn, Int.ofNat_eq_natCast, atI_nat h2]
  simp only [Int.toNat_natCast, List.getD_eq_getElem?_getD, List.getElem?_eq_getElem h2, Option.getD_some]
theorem pick_mem {xs : List Int} {a : Nat} {ds : List D} (h : ds ≠ []) : ds.getD (nxt xs a ds.length).toNat .non ∈ ds := by
  have l : 0 < (ds.length : Int) := by cases ds with
    | nil => exact absurd rfl h
    | cons => simp only [List.length_cons]; omega
  have h0 := nxt_0 (xs := xs) (a := a) l
  have h1 := nxt_lt (xs := xs) (a := a) l
  have h2 : (nxt xs a ds.length).toNat < ds.length := by omega
  rw [List.getD_eq_getElem?_getD, List.getElem?_eq_getElem h2, Option.getD_some]
  exact List.getElem_mem h2
/-! ### cuts -/
theorem cut_1 {α : Type} {a : α} {as : List α} : cutG (a :: as) (some 1) none = as := by
  unfold cutG HT.sIx
  simp
theorem all_1 {a : Bool} : oAll (.lst [.bl a]) = some (.bl a) := by cases a <;> rfl
theorem all_2 {a b : Bool} : oAll (.lst [.bl a, .bl b]) = some (.bl (a && b)) := by cases a <;> cases b <;> rfl
theorem any_1 {a : Bool} : oAny (.lst [.bl a]) = some (.bl a) := by cases a <;> rfl
theorem any_2 {a b : Bool} : oAny (.lst [.bl a, .bl b]) = some (.bl (a || b)) := by cases a <;> cases b <;> rfl
theorem sum_1 {a : Int} : oSum (.lst [.int a]) = some (.int a) := by show some (D.int _) = _; simp
theorem sum_2 {a b : Int} : oSum (.lst [.int a, .int b]) = some (.int (a + b)) := by show some (D.int _) = _; simp
theorem bls_map : ∀ {bs : List Bool}, blsD (bs.map .bl) = some bs
  | [] => rfl
  | b :: bs => by rw [List.map_cons]; unfold blsD; rw [bls_map]; rfl
theorem ints_map : ∀ {bs : List Int}, intsD (bs.map .int) = some bs
  | [] => rfl
  | b :: bs => by rw [List.map_cons]; unfold intsD; rw [ints_map]; rfl
theorem all_map {bs : List Bool} : oAll (.lst (bs.map .bl)) = some (.bl (bs.all id)) := by
  show Option.map _ (blsD (bs.map D.bl)) = _
  rw [bls_map]; rfl
theorem any_map {bs : List Bool} : oAny (.lst (bs.map .bl)) = some (.bl (bs.any id)) := by
  show Option.map _ (blsD (bs.map D.bl)) = _
  rw [bls_map]; rfl
theorem sum_map {bs : List Int} : oSum (.lst (bs.map .int)) = some (.int bs.sum) := by
  show Option.map _ (intsD (bs.map D.int)) = _
  rw [ints_map]; rfl
theorem canAll {ps : List PyData} : (∀ p ∈ ps, p.canLay0 = true) → PyData.canLayAll0 ps = true := by
  induction ps with
  | nil => intro _; rfl
  | cons p ps ih =>
    intro h
    unfold PyData.canLayAll0
    rw [Bool.and_eq_true]
    exact ⟨h p List.mem_cons_self, ih fun q hq => h q (List.mem_cons_of_mem _ hq)⟩
theorem depAll {n : Nat} {ps : List PyData} : (∀ p ∈ ps, p.depth ≤ n) → PyData.depthAll ps ≤ n := by
  induction ps with
  | nil => intro _; exact Nat.zero_le _
  | cons p ps ih =>
    intro h
    unfold PyData.depthAll
    exact Nat.max_le.mpr ⟨h p List.mem_cons_self, ih fun q hq => h q (List.mem_cons_of_mem _ hq)⟩
theorem toPys_of {n : Nat} {ds : List D} (h : ∀ d ∈ ds, ∃ p, D.toPy d = some p ∧ p.canLay0 = true ∧ p.depth ≤ n) : ∃ ps, D.toPys ds = some ps ∧ (∀ p ∈ ps, p.canLay0 = true ∧ p.depth ≤ n) ∧ ps.length = ds.length := by
  induction ds with
  | nil => exact ⟨[], rfl, fun p hp => absurd hp List.not_mem_nil, rfl⟩
  | cons d ds ih =>
    obtain ⟨ps, e, hp, hl⟩ := ih fun d hd => h d (List.mem_cons_of_mem _ hd)
    obtain ⟨p, e1, h1, h2⟩ := h d List.mem_cons_self
    refine ⟨p :: ps, by unfold D.toPys; rw [e1, e], fun q hq => ?_, by simp [hl]⟩
    rcases List.mem_cons.mp hq with rfl | hq
    · exact ⟨h1, h2⟩
    · exact hp q hq
theorem toPy_of {n : Nat} {d : D} (h : Pd n d) : ∃ p, D.toPy d = some p ∧ p.canLay0 = true ∧ p.depth ≤ n := by
  induction h with
  | non => exact ⟨_, rfl, rfl, Nat.zero_le _⟩
  | bl b => exact ⟨_, rfl, rfl, Nat.zero_le _⟩
  | int i => exact ⟨_, rfl, rfl, Nat.zero_le _⟩
  | str h => exact ⟨_, rfl, h, Nat.zero_le _⟩
  | tup l _ ih =>
    obtain ⟨ps, e, hp, hl⟩ := toPys_of ih
    refine ⟨.tuple ps, by unfold D.toPy; rw [e]; rfl, canAll fun p h => (hp p h).1, ?_⟩
    exact Nat.succ_le_succ (depAll fun p h => (hp p h).2)
/-- is a list empty? -/
theorem eq_empty {n : Nat} {ds : List D} (hn : n ≤ 60) (h : ∀ d ∈ ds, Pd n d) : oEq (.lst ds) (.lst []) = some (.bl ds.isEmpty) := by
  obtain ⟨ps, e, hp, hl⟩ := toPys_of fun d hd => toPy_of (h d hd)
  rw [eq_of (p := .list ps) (q := .list []) (by unfold D.toPy; rw [e]; rfl) rfl ?_ rfl]
  · congr 2
    cases ds with
    | nil => cases ps with
      | nil => rfl
      | cons => cases hl
    | cons => cases ps with
      | nil => cases hl
      | cons => rfl
  · unfold SeqAt.shaped
    rw [Bool.and_eq_true]
    refine ⟨canAll fun p h => (hp p h).1, ?_⟩
    have : PyData.depthAll ps ≤ n := depAll fun p h => (hp p h).2
    have h2 : (PyData.list ps).depth = PyData.depthAll ps + 1 := rfl
    simp only [h2, decide_eq_true_eq]
    omega
theorem Pd.mono {n m : Nat} {d : D} (h : Pd n d) (l : n ≤ m) : Pd m d := by
  induction h generalizing m with
  | non => exact .non
  | bl b => exact .bl b
  | int i => exact .int i
  | str h => exact .str h
  | tup z _ ih =>
    obtain ⟨m, rfl⟩ : ∃ j, m = j + 1 := ⟨m - 1, by omega⟩
    exact .tup z fun d hd => ih d hd (by omega)
/-- a comprehension over a range, by what holds ahead of each round -/
theorem comp_rngI {mg : MG} {me : ME} {ρ : M.Env} {lo : Int} {n : Nat} {s : Sto} (I : Nat → List D → Sto → Prop) (h0 : I 0 [] s)
    (hs : ∀ i ys s, i < n → I i ys s → OkO (mg (.int (lo + (i : Nat))) ρ) fun ρ1 => Ok (me ρ1 s) fun y s2 => I (i + 1) (ys ++ [y]) s2) : Ok (compL mg tYesM me ρ (rngD lo n) s) fun zs s => I n zs s := by
  have key := comp_inv (mg := mg) (mt := tYesM) (me := me) (ρ := ρ) (fun ds ys s => ∃ i m, ds = rngD (lo + (i : Nat)) m ∧ i + m = n ∧ I i ys s) (fun d ds ys s h => ?_) (rngD lo n) [] s ⟨0, n, by simp, by omega, h0⟩
  · refine Ok.mono key fun zs s h => ?_
    obtain ⟨i, m, e, he, hi⟩ := h
    cases m with
    | zero => rw [List.nil_append] at hi; rwa [show n = i by omega]
    | succ m => rw [rngD_cons] at e; cases e
  · obtain ⟨i, m, e, he, hi⟩ := h
    cases m with
    | zero => cases e
    | succ m =>
      rw [rngD_cons] at e
      cases e
      have := hs i ys s (by omega) hi
      cases q : mg (.int (lo + (i : Nat))) ρ with
      | none => rw [q, oko_none] at this; exact this.elim
      | some ρ1 =>
        rw [q, oko_some] at this
        rw [oko_some, ok_tYes, if_pos rfl]
        refine Ok.mono this fun y s2 ho => ?_
        exact ⟨i + 1, m, by congr 1; omega, by omega, ho⟩
end M
/-! P5: reckoning with texts and sorted rows. -/
namespace M
open PySem PySem.Spec PyProof.Rows L2
section
variable {QE : D → Sto → Prop} {ρ : Env} {s : Sto}
theorem ok_eJs {ms : List ME} : Ok (eJs ms ρ s) QE = Ok (eJsG ms Str.empty ρ s) QE := nr rfl
theorem ok_jsN {acc : Str} : Ok (eJsG [] acc ρ s) QE = QE (.str acc) s := nr (by with_unfolding_all rfl)
def KJs (ms : List ME) (acc : Str) (ρ : Env) (Q : D → Sto → Prop) : D → Sto → Prop := fun d s => match d with
  | .str y => (acc ++ y).length ≤ sizeLine ∧ Ok (eJsG ms (acc ++ y) ρ s) Q
  | _ => False
theorem ok_jsC {m : ME} {ms : List ME} {acc : Str} : Ok (eJsG (m :: ms) acc ρ s) QE = Ok (m ρ s) (KJs ms acc ρ QE) := by
  conv => lhs; unfold eJsG
  rw [ok_bind]
  unfold KJs
  congr
  funext d s1
  cases d with
  | str y =>
    simp only
    by_cases c : (acc ++ y).length ≤ sizeLine
    · rw [if_pos c, eq_true c, true_and]
    · rw [if_neg c, ok_no]; exact (eq_false fun h => c h.1).symm
  | _ => exact ok_no
theorem kJs {ms : List ME} {acc y : Str} : KJs ms acc ρ QE (.str y) s = ((acc ++ y).length ≤ sizeLine ∧ Ok (eJsG ms (acc ++ y) ρ s) QE) := nr rfl
end
theorem v_fmtI {i : Int} (h : i.natAbs < 2 ^ 64) : oFmt (.int i) = some (.str (toString i)) := by
  show (if _ then _ else _) = _
  have : i.natAbs.log2 < 64 := log2_lt (by decide) h
  rw [if_pos (by omega)]
theorem v_strI {i : Int} (h : i.natAbs < 2 ^ 64) : oStr [.int i] = some (.str (toString i)) := by
  show (if _ then _ else _) = _
  have : i.natAbs.log2 < 64 := log2_lt (by decide) h
  rw [if_pos (by omega)]
theorem str_empty (x : Str) : Str.empty ++ x = x := by
  show Str.append _ _ = _
  unfold Str.append Str.empty
  simp
theorem v_addS {a b : Str} (h : a.length + b.length ≤ sizeLine) : oAdd (.str a) (.str b) = some (.str (a ++ b)) := by show (if _ then _ else _) = _; rw [if_pos h]
theorem len_app (a b : Str) : (a ++ b).length = a.length + b.length := by
  show (Str.append _ _).length = _
  unfold Str.append Str.length
  simp
/-- a row that can be sorted -/
theorem v_sort {ds : List D} {ps : List PyData} (h : D.toPys ds = some ps) (c : sortOk ps = true) : oSortedD (.lst ds) = some (.lst (ds.mergeSort leD)) := by
  unfold oSortedD; simp only [h, c, if_true]
theorem sortOk_tups {ps : List PyData} (h1 : ∀ p ∈ ps, ∀ q ∈ ps, PySem.W.alike p q = true) (h2 : ∀ p ∈ ps, ∃ x r, p = .tuple (x :: r)) (h3 : ∀ p ∈ ps, p.depth ≤ 60) : sortOk ps = true := by
  unfold sortOk
  rw [Bool.and_eq_true, Bool.and_eq_true, Bool.or_eq_true]
  refine ⟨⟨List.all_eq_true.mpr fun p hp => List.all_eq_true.mpr fun q hq => h1 p hp q hq, .inl (List.all_eq_true.mpr fun p hp => ?_)⟩, List.all_eq_true.mpr fun p hp => decide_eq_true (h3 p hp)⟩
  obtain ⟨x, r, rfl⟩ := h2 p hp
  rfl
theorem toPys_map {α : Type} {f : α → D} {g : α → PyData} : ∀ {xs : List α}, (∀ x ∈ xs, D.toPy (f x) = some (g x)) → D.toPys (xs.map f) = some (xs.map g)
  | [], _ => rfl
  | x :: xs, h => by
    rw [List.map_cons, List.map_cons]
    unfold D.toPys
    rw [h x List.mem_cons_self, toPys_map fun y hy => h y (List.mem_cons_of_mem _ hy)]
theorem toPys_ints : ∀ {xs : List Int}, D.toPys (xs.map .int) = some (xs.map .int)
  | [] => rfl
  | x :: xs => by
    rw [List.map_cons, List.map_cons]
    unfold D.toPys
    rw [toPys_ints]
    rfl
/-- a row of tuples of ints, none empty -/
theorem sort_ints {L : List (List Int)} (h : ∀ l ∈ L, l ≠ []) : oSortedD (.lst (L.map fun l => .tup (l.map .int))) = some (.lst ((L.map fun l => .tup (l.map .int)).mergeSort leD)) := by
  refine v_sort (ps := L.map fun l => .tuple (l.map .int)) (toPys_map fun l _ => ?_) (sortOk_tups ?_ ?_ ?_)
  · unfold D.toPy; rw [toPys_ints]; rfl
  · intro p hp q hq
    obtain ⟨l, _, rfl⟩ := List.mem_map.mp hp
    obtain ⟨m, _, rfl⟩ := List.mem_map.mp hq
    show PySem.W.alikeAll _ _ = true
    exact PySem.W.alike_ints l m
  · intro p hp
    obtain ⟨l, hl, rfl⟩ := List.mem_map.mp hp
    cases l with
    | nil => exact absurd rfl (h _ hl)
    | cons x l => exact ⟨.int x, l.map .int, rfl⟩
  · intro p hp
    obtain ⟨l, _, rfl⟩ := List.mem_map.mp hp
    show PyData.depthAll _ + 1 ≤ 60
    rw [PySem.W.depth_ints]
    decide
theorem comp_rg0 {mg : MG} {me : ME} {ρ : Env} {s : Sto} {n : Nat} (f : Nat → D) (h : ∀ i : Nat, i < n → OkO (mg (.int (i : Nat)) ρ) fun ρ1 => Ok (me ρ1 s) fun y s2 => y = f i ∧ s2 = s) :
    compL mg tYesM me ρ (rngD 0 n) s = .ok ((List.range n).map f) s := by
  rw [comp_rg (fun i => f i.toNat) fun i hi => ?_]
  · congr 1
    refine List.map_congr_left fun i _ => ?_
    rw [Int.zero_add, Int.toNat_natCast]
  · rw [Int.zero_add, Int.toNat_natCast]
    exact h i hi
theorem comp_rg1 {mg : MG} {me : ME} {ρ : Env} {s : Sto} {n : Nat} (f : Nat → D) (h : ∀ i : Nat, i < n → OkO (mg (.int ((i + 1 : Nat) : Int)) ρ) fun ρ1 => Ok (me ρ1 s) fun y s2 => y = f i ∧ s2 = s) :
    compL mg tYesM me ρ (rngD 1 n) s = .ok ((List.range n).map f) s := by
  rw [comp_rg (fun i => f (i - 1).toNat) fun i hi => ?_]
  · congr 1
    refine List.map_congr_left fun i _ => ?_
    congr 1
    omega
  · have e : (1 : Int) + (i : Nat) = ((i + 1 : Nat) : Int) := by omega
    have e2 : (((i + 1 : Nat) : Int) - 1).toNat = i := by omega
    rw [e, e2]
    exact h i hi
end M
/-! P6: data of a known form: equality, membership, order; loops with states. -/
namespace M
open PySem PySem.Spec PyProof.Rows L2
/-- how a value is written as a datum -/
structure Enc (α : Type) [DecidableEq α] where
  f : α → D
  g : α → PyData
  n : Nat
  py : ∀ a, D.toPy (f a) = some (g a)
  lay : ∀ a, (g a).canLay0 = true
  dep : ∀ a, (g a).depth ≤ n
  eqv : ∀ a b, PyData.eqv (g a) (g b) = decide (a = b)
section
variable {α β : Type} [DecidableEq α] [DecidableEq β]
def Enc.int : Enc Int where
  f := .int
  g := .int
  n := 0
  py := fun _ => rfl
  lay := fun _ => rfl
  dep := fun _ => Nat.le_refl _
  eqv := fun a b => by show (a == b) = _; rfl
def Enc.str : Enc String where
  f := fun x => .str (Str.ofString x)
  g := fun x => .str (Str.ofString x)
  n := 0
  py := fun _ => rfl
  lay := fun a => strOk_of a
  dep := fun _ => Nat.le_refl _
  eqv := fun a b => by
    show (Str.ofString a == Str.ofString b) = _
    rw [str_beq]
    rfl
theorem Enc.pys (A : Enc α) : ∀ xs : List α, D.toPys (xs.map A.f) = some (xs.map A.g)
  | [] => rfl
  | x :: xs => by
    have ih := Enc.pys A xs
    rw [List.map_cons]
    unfold D.toPys
    rw [A.py, ih]; rfl
theorem Enc.lays (A : Enc α) (xs : List α) : PyData.canLayAll0 (xs.map A.g) = true := canAll fun p hp => by
  obtain ⟨x, _, rfl⟩ := List.mem_map.mp hp
  exact A.lay x
theorem Enc.deps (A : Enc α) (xs : List α) : PyData.depthAll (xs.map A.g) ≤ A.n := depAll fun p hp => by
  obtain ⟨x, _, rfl⟩ := List.mem_map.mp hp
  exact A.dep x
theorem Enc.eqvs (A : Enc α) : ∀ xs ys : List α, PyData.eqvAll (xs.map A.g) (ys.map A.g) = decide (xs = ys)
  | [], [] => rfl
  | [], _ :: _ => rfl
  | _ :: _, [] => rfl
  | x :: xs, y :: ys => by
    have ih := Enc.eqvs A xs ys
    show (PyData.eqv (A.g x) (A.g y) && PyData.eqvAll (xs.map A.g) (ys.map A.g)) = _
    rw [A.eqv, ih]
    by_cases h : x = y
    · by_cases h2 : xs = ys
      · simp [h, h2]
      · simp [h, h2]
    · simp [h]
def Enc.lst (A : Enc α) : Enc (List α) where
  f := fun xs => .lst (xs.map A.f)
  g := fun xs => .list (xs.map A.g)
  n := A.n + 1
  py := fun xs => by show (D.toPys _).map _ = _; rw [A.pys]; rfl
  lay := fun xs => A.lays xs
  dep := fun xs => Nat.succ_le_succ (A.deps xs)
  eqv := fun xs ys => A.eqvs xs ys
def Enc.tup (A : Enc α) : Enc (List α) where
  f := fun xs => .tup (xs.map A.f)
  g := fun xs => .tuple (xs.map A.g)
  n := A.n + 1
  py := fun xs => by show (D.toPys _).map _ = _; rw [A.pys]; rfl
  lay := fun xs => A.lays xs
  dep := fun xs => Nat.succ_le_succ (A.deps xs)
  eqv := fun xs ys => A.eqvs xs ys
def Enc.two (A : Enc α) (B : Enc β) : Enc (α × β) where
  f := fun p => .tup [A.f p.1, B.f p.2]
  g := fun p => .tuple [A.g p.1, B.g p.2]
  n := max A.n B.n + 1
  py := fun p => by show (D.toPys _).map _ = _; unfold D.toPys; unfold D.toPys; unfold D.toPys; rw [A.py, B.py]; rfl
  lay := fun p => by show (_ && (_ && _)) = true; rw [A.lay, B.lay]; rfl
  dep := fun p => by
    show Nat.max (A.g p.1).depth (Nat.max (B.g p.2).depth 0) + 1 ≤ _
    have := A.dep p.1
    have := B.dep p.2
    have h : Nat.max (A.g p.1).depth (Nat.max (B.g p.2).depth 0) ≤ max A.n B.n := Nat.max_le.mpr ⟨by omega, Nat.max_le.mpr ⟨by omega, Nat.zero_le _⟩⟩
    omega
  eqv := fun p q => by
    show (PyData.eqv _ _ && (PyData.eqv _ _ && true)) = _
    rw [A.eqv, B.eqv]
    obtain ⟨a, b⟩ := p
    obtain ⟨c, d⟩ := q
    by_cases h : a = c
    · by_cases h2 : b = d
      · simp [h, h2]
      · simp [h, h2]
    · simp [h]
theorem Enc.sh (A : Enc α) (hn : A.n ≤ 60) (a : α) : SeqAt.shaped (A.g a) = true := by
  have := A.dep a
  unfold SeqAt.shaped
  rw [Bool.and_eq_true]
  exact ⟨A.lay a, by simp only [decide_eq_true_eq]; omega⟩
theorem Enc.eq (A : Enc α) (hn : A.n ≤ 60) (a b : α) : oEq (A.f a) (A.f b) = some (.bl (decide (a = b))) := by
  rw [eq_of (A.py a) (A.py b) (A.sh hn a) (A.sh hn b), A.eqv]
theorem Enc.ne (A : Enc α) (hn : A.n ≤ 60) (a b : α) : oNe (A.f a) (A.f b) = some (.bl (!decide (a = b))) := by
  rw [ne_of (A.py a) (A.py b) (A.sh hn a) (A.sh hn b), A.eqv]
theorem flat_eqv {d e : D} {p q : PyData} (h : flatD d = true) (h2 : flatD e = true) (h3 : D.toPy d = some p) (h4 : D.toPy e = some q) : flatEq d e = PyData.eqv p q := by
  cases d <;> cases e <;> (first | (cases h; done) | (cases h2; done) | (cases h3; cases h4; rfl))
theorem Enc.any (A : Enc α) (x : α) (xs : List α) : ((xs.map A.g).any fun z => PyData.eqv z (A.g x)) = decide (x ∈ xs) := by
  induction xs with
  | nil => rfl
  | cons y ys ih =>
    rw [List.map_cons, List.any_cons, ih, A.eqv]
    by_cases h : y = x
    · simp [h]
    · have : ¬ x = y := fun e => h e.symm
      simp [h, this]
theorem Enc.anyF (A : Enc α) (x : α) (hx : flatD (A.f x) = true) (xs : List α) (h : (xs.map A.f).all flatD = true) : ((xs.map A.f).any fun z => flatEq z (A.f x)) = decide (x ∈ xs) := by
  rw [← A.any]
  induction xs with
  | nil => rfl
  | cons y ys ih =>
    rw [List.map_cons, List.all_cons, Bool.and_eq_true] at h
    rw [List.map_cons, List.map_cons, List.any_cons, List.any_cons, ih h.2, flat_eqv h.1 hx (A.py y) (A.py x)]
theorem Enc.inB (A : Enc α) (hn : A.n ≤ 59) (x : α) (xs : List α) : inD (A.f x) (.lst (xs.map A.f)) = some (decide (x ∈ xs)) ∧ inD (A.f x) (.tup (xs.map A.f)) = some (decide (x ∈ xs)) := by
  have e1 : SeqAt.shaped (A.g x) = true := A.sh (by omega) x
  have e2 : SeqAt.shaped (.list (xs.map A.g)) = true := Enc.sh A.lst (by show A.n + 1 ≤ 60; omega) xs
  by_cases c : flatD (A.f x) = true ∧ (xs.map A.f).all flatD = true
  · constructor
    · show (if _ then _ else _) = _
      rw [if_pos c, A.anyF x c.1 xs c.2]
    · show (if _ then _ else _) = _
      rw [if_pos c, A.anyF x c.1 xs c.2]
  · constructor
    · show (if _ then _ else _) = _
      rw [if_neg c, A.py, A.pys]
      show (if _ then _ else _) = _
      rw [if_pos ⟨e1, e2⟩, A.any]
    · show (if _ then _ else _) = _
      rw [if_neg c, A.py, A.pys]
      show (if _ then _ else _) = _
      rw [if_pos ⟨e1, e2⟩, A.any]
theorem Enc.inL (A : Enc α) (hn : A.n ≤ 59) (x : α) (xs : List α) : oIn (A.f x) (.lst (xs.map A.f)) = some (.bl (decide (x ∈ xs))) := by
  unfold oIn; rw [(A.inB hn x xs).1]; rfl
theorem Enc.inT (A : Enc α) (hn : A.n ≤ 59) (x : α) (xs : List α) : oIn (A.f x) (.tup (xs.map A.f)) = some (.bl (decide (x ∈ xs))) := by
  unfold oIn; rw [(A.inB hn x xs).2]; rfl
theorem Enc.ninL (A : Enc α) (hn : A.n ≤ 59) (x : α) (xs : List α) : oNotIn (A.f x) (.lst (xs.map A.f)) = some (.bl (!decide (x ∈ xs))) := by
  unfold oNotIn; rw [(A.inB hn x xs).1]; rfl
theorem Enc.ninT (A : Enc α) (hn : A.n ≤ 59) (x : α) (xs : List α) : oNotIn (A.f x) (.tup (xs.map A.f)) = some (.bl (!decide (x ∈ xs))) := by
  unfold oNotIn; rw [(A.inB hn x xs).2]; rfl
/-- a sorted list of known data is a list of such -/
theorem Enc.sort (A : Enc α) (xs : List α) (h : sortOk (xs.map A.g) = true) : ∃ ys : List α, ys.Perm xs ∧ oSortedD (.lst (xs.map A.f)) = some (.lst (ys.map A.f)) := by
  refine ⟨xs.mergeSort fun a b => leD (A.f a) (A.f b), List.mergeSort_perm _ _, ?_⟩
  rw [v_sort (A.pys xs) h]
  have e : (xs.mergeSort fun a b => leD (A.f a) (A.f b)).map A.f = (xs.map A.f).mergeSort leD := List.map_mergeSort fun _ _ _ _ => rfl
  rw [e]
end
section
variable {Q : Out → Sto → Prop}
/-- a comprehension whose turns may draw -/
theorem compT {mg : MG} {mt : MT} {me : ME} {ρ : Env} (I : List D → Sto → Prop) : ∀ (ds : List D) (acc : List D) (s : Sto), I acc s →
    (∀ d ∈ ds, ∀ acc s, I acc s → OkO (mg d ρ) fun ρ1 => Ok (mt ρ1 s) fun b s1 => if b = true then Ok (me ρ1 s1) fun y s2 => I (acc ++ [y]) s2 else I acc s1) → Ok (compL mg mt me ρ ds s) fun ys s' => I (acc ++ ys) s'
  | [], acc, s, h, _ => by
    simp only [M.ok_ok, M.ok_no, M.oko_some, M.ok_eC, M.ok_eV0, M.ok_eVs, M.ok_e1, M.k1, M.ok_e2, M.k2a, M.k2, M.ok_evs0, M.ok_evs, M.kA, M.ok_eTup, M.ok_eLst, M.ok_eB, M.ok_eCall, M.kTup, M.kLst, M.kB, M.kCall, M.ok_eIf, M.kIfE, M.ok_eAnd, M.kAnd, M.ok_eOr, M.kOr, M.ok_eNot, M.kNotE, M.ok_eChain, M.kCh, M.kCh2, M.ok_tOfE, M.kTo, M.ok_tTru, M.kTru, M.ok_tAnd, M.ok_tOr, M.ok_tNot, M.kTAnd, M.kTOr, M.kTNot, M.ok_tYes, M.ok_pNo, M.ok_pSome, M.kPs, M.ok_eCut, M.kCut, M.kCut1, M.kCut2, M.ok_eDGet, M.kDg, M.kDg2, M.ok_sSeq, M.kSeq_nx, M.kSeq_rt, M.kSeq_bk, M.kSeq_ct, M.ok_sSet, M.kSet, M.ok_sAsg, M.kAsg, M.ok_sPar, M.kPar, M.ok_sDrop, M.kDrop, M.ok_sRet, M.kRet, M.ok_sRetN, M.ok_sNext, M.ok_sBrk, M.ok_sCnt, M.ok_sIf, M.kIf, M.kAug, M.kApp, M.ok_sFor, M.kFor, M.ok_fnM, M.kFn_rt, M.kFn_nx, M.ok_iS, M.kIS_lst, M.kIS_tup, M.ok_iR1, M.kR1, M.ok_iR2, M.kR2, M.ok_eLstRg, M.ok_eTupRg, M.kRg, M.ok_rg1, M.kRg1, M.ok_rg2, M.kRg2, M.kRg2b, M.ok_eM1, M.kM1, M.kM1b, M.ok_eComp, M.kComp, M.kComp1, M.ok_eComp2, M.kCompC, M.kCompB, M.ok_eDisp, M.kDisp, M.ok_sAug1, M.ok_sApp1, M.kApp1, M.kIt_nx, M.kIt_ct, M.kIt_bk, M.kIt_rt, M.v_sub, M.v_addI, M.v_addA, M.v_subA, M.v_lt, M.v_le, M.v_gt, M.v_ge, M.v_int, M.v_lenL, M.v_lenT, M.v_lenZ, M.v_abs, M.v_max, M.v_min, M.v_neg, M.v_ixL, M.v_ixT, M.v_ixZ, M.v_cutL, M.v_cutT, M.v_tupL, M.v_tupT, M.v_lstL, M.v_lstT, M.tr_bl, M.tr_int, M.tr_lst, M.tr_tup, M.tr_non, M.env0_go, M.g_N, M.g_T, M.g_sC, M.g_sN, M.wipe0, M.wipeS, M.ge_0, M.ge_S, List.set_cons_zero, List.set_cons_succ, List.map_cons, List.map_nil, List.cons_append, List.nil_append, List.length_cons, List.length_nil, Nat.reduceAdd, Nat.reduceSub, List.replicate_succ, List.replicate_zero, Option.bind_some, String.reduceBEq, Int.reduceBEq, Bool.or_self, if_true, if_false, Bool.false_eq_true, Bool.not_true, Bool.not_false, true_and, and_true, decide_true, decide_false, Option.map_some, M.is_non_int, M.is_non_bool, M.is_non_str, M.is_non_tuple, M.is_non_list, M.is_non_dict, M.is_bl_int, M.is_bl_bool, M.is_bl_str, M.is_bl_tuple, M.is_bl_list, M.is_bl_dict, M.is_int_int, M.is_int_bool, M.is_int_str, M.is_int_tuple, M.is_int_list, M.is_int_dict, M.is_str_int, M.is_str_bool, M.is_str_str, M.is_str_tuple, M.is_str_list, M.is_str_dict, M.is_tup_int, M.is_tup_bool, M.is_tup_str, M.is_tup_tuple, M.is_tup_list, M.is_tup_dict, M.is_lst_int, M.is_lst_bool, M.is_lst_str, M.is_lst_tuple, M.is_lst_list, M.is_lst_dict, M.isn_non, M.isn_bl, M.isn_int, M.isn_str, M.isn_tup, M.isn_lst, M.str_beq, M.f_non, M.f_bl, M.f_int, M.f_str, M.fe_str, M.fe_int, M.fe_si, M.fe_is, M.in_tup, M.in_lst, M.nin_tup, M.nin_lst, M.at_0, M.at_1, M.at_2, M.at_3, M.eq_int, M.ne_int, M.eq_bl, M.eq_nil, M.eq_str, M.ne_str, List.all_cons, List.all_nil, List.any_cons, List.any_nil, Bool.and_self, Bool.or_false, Bool.false_or, Bool.or_true, Bool.true_or, Bool.and_true, Bool.true_and, Bool.and_false, Bool.false_and, beq_self_eq_true, bne_self_eq_false, M.ok_comp0, M.ok_compS, M.kCe, M.kCt, M.forD_nil, M.forD_cons, M.kForT_nx, M.kForT_ct, M.kForT_bk, M.kForT_rt, M.cut_1, M.all_1, M.all_2, M.any_1, M.any_2, M.sum_1, M.sum_2, M.all_map, M.any_map, M.sum_map, M.ok_eJs, M.ok_jsN, M.ok_jsC, M.kJs]
    rw [List.append_nil]; exact h
  | d :: ds, acc, s, h, st => by
    simp only [M.ok_ok, M.ok_no, M.oko_some, M.ok_eC, M.ok_eV0, M.ok_eVs, M.ok_e1, M.k1, M.ok_e2, M.k2a, M.k2, M.ok_evs0, M.ok_evs, M.kA, M.ok_eTup, M.ok_eLst, M.ok_eB, M.ok_eCall, M.kTup, M.kLst, M.kB, M.kCall, M.ok_eIf, M.kIfE, M.ok_eAnd, M.kAnd, M.ok_eOr, M.kOr, M.ok_eNot, M.kNotE, M.ok_eChain, M.kCh, M.kCh2, M.ok_tOfE, M.kTo, M.ok_tTru, M.kTru, M.ok_tAnd, M.ok_tOr, M.ok_tNot, M.kTAnd, M.kTOr, M.kTNot, M.ok_tYes, M.ok_pNo, M.ok_pSome, M.kPs, M.ok_eCut, M.kCut, M.kCut1, M.kCut2, M.ok_eDGet, M.kDg, M.kDg2, M.ok_sSeq, M.kSeq_nx, M.kSeq_rt, M.kSeq_bk, M.kSeq_ct, M.ok_sSet, M.kSet, M.ok_sAsg, M.kAsg, M.ok_sPar, M.kPar, M.ok_sDrop, M.kDrop, M.ok_sRet, M.kRet, M.ok_sRetN, M.ok_sNext, M.ok_sBrk, M.ok_sCnt, M.ok_sIf, M.kIf, M.kAug, M.kApp, M.ok_sFor, M.kFor, M.ok_fnM, M.kFn_rt, M.kFn_nx, M.ok_iS, M.kIS_lst, M.kIS_tup, M.ok_iR1, M.kR1, M.ok_iR2, M.kR2, M.ok_eLstRg, M.ok_eTupRg, M.kRg, M.ok_rg1, M.kRg1, M.ok_rg2, M.kRg2, M.kRg2b, M.ok_eM1, M.kM1, M.kM1b, M.ok_eComp, M.kComp, M.kComp1, M.ok_eComp2, M.kCompC, M.kCompB, M.ok_eDisp, M.kDisp, M.ok_sAug1, M.ok_sApp1, M.kApp1, M.kIt_nx, M.kIt_ct, M.kIt_bk, M.kIt_rt, M.v_sub, M.v_addI, M.v_addA, M.v_subA, M.v_lt, M.v_le, M.v_gt, M.v_ge, M.v_int, M.v_lenL, M.v_lenT, M.v_lenZ, M.v_abs, M.v_max, M.v_min, M.v_neg, M.v_ixL, M.v_ixT, M.v_ixZ, M.v_cutL, M.v_cutT, M.v_tupL, M.v_tupT, M.v_lstL, M.v_lstT, M.tr_bl, M.tr_int, M.tr_lst, M.tr_tup, M.tr_non, M.env0_go, M.g_N, M.g_T, M.g_sC, M.g_sN, M.wipe0, M.wipeS, M.ge_0, M.ge_S, List.set_cons_zero, List.set_cons_succ, List.map_cons, List.map_nil, List.cons_append, List.nil_append, List.length_cons, List.length_nil, Nat.reduceAdd, Nat.reduceSub, List.replicate_succ, List.replicate_zero, Option.bind_some, String.reduceBEq, Int.reduceBEq, Bool.or_self, if_true, if_false, Bool.false_eq_true, Bool.not_true, Bool.not_false, true_and, and_true, decide_true, decide_false, Option.map_some, M.is_non_int, M.is_non_bool, M.is_non_str, M.is_non_tuple, M.is_non_list, M.is_non_dict, M.is_bl_int, M.is_bl_bool, M.is_bl_str, M.is_bl_tuple, M.is_bl_list, M.is_bl_dict, M.is_int_int, M.is_int_bool, M.is_int_str, M.is_int_tuple, M.is_int_list, M.is_int_dict, M.is_str_int, M.is_str_bool, M.is_str_str, M.is_str_tuple, M.is_str_list, M.is_str_dict, M.is_tup_int, M.is_tup_bool, M.is_tup_str, M.is_tup_tuple, M.is_tup_list, M.is_tup_dict, M.is_lst_int, M.is_lst_bool, M.is_lst_str, M.is_lst_tuple, M.is_lst_list, M.is_lst_dict, M.isn_non, M.isn_bl, M.isn_int, M.isn_str, M.isn_tup, M.isn_lst, M.str_beq, M.f_non, M.f_bl, M.f_int, M.f_str, M.fe_str, M.fe_int, M.fe_si, M.fe_is, M.in_tup, M.in_lst, M.nin_tup, M.nin_lst, M.at_0, M.at_1, M.at_2, M.at_3, M.eq_int, M.ne_int, M.eq_bl, M.eq_nil, M.eq_str, M.ne_str, List.all_cons, List.all_nil, List.any_cons, List.any_nil, Bool.and_self, Bool.or_false, Bool.false_or, Bool.or_true, Bool.true_or, Bool.and_true, Bool.true_and, Bool.and_false, Bool.false_and, beq_self_eq_true, bne_self_eq_false, M.ok_comp0, M.ok_compS, M.kCe, M.kCt, M.forD_nil, M.forD_cons, M.kForT_nx, M.kForT_ct, M.kForT_bk, M.kForT_rt, M.cut_1, M.all_1, M.all_2, M.any_1, M.any_2, M.sum_1, M.sum_2, M.all_map, M.any_map, M.sum_map, M.ok_eJs, M.ok_jsN, M.ok_jsC, M.kJs]
    have h1 := st d List.mem_cons_self acc s h
    cases q : mg d ρ with
    | none => rw [q, oko_none] at h1; exact h1.elim
    | some ρ1 =>
      rw [q, oko_some] at h1
      rw [oko_some]
      refine Ok.mono h1 fun b s1 hb => ?_
      rw [kCt]
      cases b with
      | true =>
        rw [if_pos rfl] at hb ⊢
        refine Ok.mono hb fun y s2 hy => ?_
        rw [kCe]
        refine Ok.mono (compT I ds (acc ++ [y]) s2 hy fun e he => st e (List.mem_cons_of_mem _ he)) fun ys s3 h3 => ?_
        rw [List.append_assoc] at h3
        exact h3
      | false =>
        rw [if_neg (by decide)] at hb ⊢
        exact compT I ds acc s1 hb fun e he => st e (List.mem_cons_of_mem _ he)
theorem compT_inv0 {mg : MG} {mt : MT} {me : ME} {ρ : Env} (I : List D → Sto → Prop) {ds : List D} {s : Sto} (h : I [] s)
    (st : ∀ d ∈ ds, ∀ acc s, I acc s → OkO (mg d ρ) fun ρ1 => Ok (mt ρ1 s) fun b s1 => if b = true then Ok (me ρ1 s1) fun y s2 => I (acc ++ [y]) s2 else I acc s1) : Ok (compL mg mt me ρ ds s) I :=
  Ok.mono (compT I ds [] s h st) fun _ _ h => h
theorem ok_while0 {c : MT} {b : MS} {n : Nat} {ρ : Env} {s : Sto} : Ok (whileD c b (n + 1) ρ s) Q = Ok (c ρ s) fun t s1 => if t = true then Ok (b ρ s1) (fun o s2 => match o with
    | .nx ρ2 => Ok (whileD c b n ρ2 s2) Q
    | .ct ρ2 => Ok (whileD c b n ρ2 s2) Q
    | .bk ρ2 => Q (.nx ρ2) s2
    | .rt d => Q (.rt d) s2) else Q (.nx ρ) s1 := by
  show Ok ((c ρ s).bind _) Q = _
  rw [ok_bind]
  congr
  funext t s1
  rw [ok_ite, ok_ok, ok_bind]
  cases t with
  | true =>
    rw [if_pos rfl, if_pos rfl]
    congr
    funext o s2
    cases o <;> (first | rfl | rw [ok_ok])
  | false => rw [if_neg (by decide), if_neg (by decide)]
/-- a while, by what holds ahead of each turn and a measure -/
theorem while_inv {c : MT} {b : MS} (I : Nat → Env → Sto → Prop) (hs : ∀ m ρ s, I m ρ s → Ok (c ρ s) fun t s1 => if t = true then Ok (b ρ s1) (KIt (fun ρ' s' => ∃ m', m' < m ∧ I m' ρ' s') Q) else Q (.nx ρ) s1) :
    ∀ (n m : Nat) (ρ : Env) (s : Sto), m < n → I m ρ s → Ok (whileD c b n ρ s) Q := by
  intro n
  induction n with
  | zero => intro m ρ s h; exact absurd h (Nat.not_lt_zero _)
  | succ n ih =>
    intro m ρ s hm hi
    rw [ok_while0]
    refine Ok.mono (hs m ρ s hi) fun t s1 h => ?_
    cases t with
    | false => rw [if_neg (by decide)] at h ⊢; exact h
    | true =>
      rw [if_pos rfl] at h ⊢
      refine Ok.mono h fun o s2 ho => ?_
      cases o with
      | nx ρ2 => obtain ⟨m', h1, h2⟩ := ho; exact ih m' ρ2 s2 (by omega) h2
      | ct ρ2 => obtain ⟨m', h1, h2⟩ := ho; exact ih m' ρ2 s2 (by omega) h2
      | bk ρ2 => exact ho
      | rt d => exact ho
end
end M
/-! P7: sorted ints, cells that are lists, items of own lists. -/
namespace M
open PySem PySem.Spec PyProof.Rows L2
def Enc.via {α β : Type} [DecidableEq α] [DecidableEq β] (A : Enc α) (h : β → α) (inj : ∀ a b, h a = h b → a = b) : Enc β where
  f := fun b => A.f (h b)
  g := fun b => A.g (h b)
  n := A.n
  py := fun b => A.py _
  lay := fun b => A.lay _
  dep := fun b => A.dep _
  eqv := fun a b => by
    rw [A.eqv]
    by_cases e : a = b
    · subst e; simp
    · have : ¬ h a = h b := fun q => e (inj a b q)
      simp [e, this]
theorem perm_sorted : ∀ {xs ys : List Int}, xs.Perm ys → xs.Pairwise (· ≤ ·) → ys.Pairwise (· ≤ ·) → xs = ys
  | [], ys, p, _, _ => by rw [List.Perm.nil_eq p]
  | x :: xs, [], p, _, _ => by cases List.Perm.eq_nil p
  | x :: xs, y :: ys, p, hx, hy => by
    have h1 : x ≤ y := by
      rcases List.mem_cons.mp (p.mem_iff.mpr (List.mem_cons_self : y ∈ y :: ys)) with e | e
      · omega
      · exact (List.pairwise_cons.mp hx).1 y e
    have h2 : y ≤ x := by
      rcases List.mem_cons.mp (p.mem_iff.mp (List.mem_cons_self : x ∈ x :: xs)) with e | e
      · omega
      · exact (List.pairwise_cons.mp hy).1 x e
    have e : x = y := by omega
    subst e
    rw [perm_sorted ((List.perm_cons _).mp p) (List.pairwise_cons.mp hx).2 (List.pairwise_cons.mp hy).2]
def srt (xs : List Int) : List Int := xs.mergeSort fun a b => decide (a ≤ b)
theorem srt_pw (xs : List Int) : (srt xs).Pairwise (· ≤ ·) := by
  have h := List.pairwise_mergeSort (le := fun a b : Int => decide (a ≤ b)) (fun a b c h1 h2 => by simp at *; omega) (fun a b => by simp; omega) xs
  exact h.imp fun h => by simpa using h
theorem srt_perm (xs : List Int) : (srt xs).Perm xs := List.mergeSort_perm _ _
theorem srt_eq {xs ys : List Int} (p : xs.Perm ys) : srt xs = srt ys := perm_sorted ((srt_perm xs).trans (p.trans (srt_perm ys).symm)) (srt_pw xs) (srt_pw ys)
theorem srt_mem {xs ys : List Int} (h1 : xs.Nodup) (h2 : ys.Nodup) (h : ∀ a, a ∈ xs ↔ a ∈ ys) : srt xs = srt ys := srt_eq ((List.perm_ext_iff_of_nodup h1 h2).mpr h)
theorem leD_int (a b : Int) : leD (.int a) (.int b) = decide (a ≤ b) := by
  show (!PyProof.Rows.lexLt PyProof.Rows.itemOrd [Sum.inl b] [Sum.inl a]) = _
  unfold PyProof.Rows.lexLt
  show (!(PyProof.Rows.itemLt (.inl b) (.inl a) || _)) = _
  by_cases h : b < a
  · have h2 : ¬ a ≤ b := by omega
    simp [PyProof.Rows.itemLt, h, h2]
  · have h2 : a ≤ b := by omega
    simp [PyProof.Rows.itemLt, PyProof.Rows.lexLt, h, h2]
theorem sort_int (xs : List Int) : oSortedD (.lst (xs.map .int)) = some (.lst ((srt xs).map .int)) := by
  have h : sortOk (xs.map PyData.int) = true := by
    unfold sortOk
    rw [Bool.and_eq_true, Bool.and_eq_true, Bool.or_eq_true]
    refine ⟨⟨List.all_eq_true.mpr fun p hp => List.all_eq_true.mpr fun q hq => ?_, .inr (List.all_eq_true.mpr fun p hp => ?_)⟩, List.all_eq_true.mpr fun p hp => ?_⟩
    · obtain ⟨_, _, rfl⟩ := List.mem_map.mp hp
      obtain ⟨_, _, rfl⟩ := List.mem_map.mp hq
      rfl
    · obtain ⟨_, _, rfl⟩ := List.mem_map.mp hp
      rfl
    · obtain ⟨_, _, rfl⟩ := List.mem_map.mp hp
      rfl
  rw [v_sort (toPys_ints) h]
  congr 2
  have e : (xs.mergeSort fun a b => leD (.int a) (.int b)).map D.int = (xs.map D.int).mergeSort leD := List.map_mergeSort fun _ _ _ _ => rfl
  rw [← e]
  unfold srt
  congr 2
  funext a b
  exact leD_int a b
theorem nodup_len {α : Type} [DecidableEq α] : ∀ {xs ys : List α}, xs.Nodup → (∀ a ∈ xs, a ∈ ys) → xs.length ≤ ys.length
  | [], _, _, _ => Nat.zero_le _
  | x :: xs, ys, h, hs => by
    have hx := hs x List.mem_cons_self
    have ih := nodup_len (xs := xs) (ys := ys.erase x) (List.nodup_cons.mp h).2 fun a ha => (List.mem_erase_of_ne fun e : a = x => (List.nodup_cons.mp h).1 (by rw [← e]; exact ha)).mpr (hs a (List.mem_cons_of_mem _ ha))
    have e := List.length_erase_of_mem hx
    have p := List.length_pos_of_mem hx
    rw [List.length_cons]
    omega
section
variable {QE : D → Sto → Prop} {QS : Out → Sto → Prop} {ρ : Env} {s : Sto}
def KNewL (Q : D → Sto → Prop) : List D → Sto → Prop := fun ds s => Q (.ref s.length) (s ++ [.lst ds])
theorem ok_eNewL {ms : List ME} : Ok (eNewL ms ρ s) QE = Ok (evs ms ρ s) (KNewL QE) := by unfold eNewL; rw [ok_bind]; congr; funext ds s1; rw [ok_ok]; rfl
theorem kNewL {ds : List D} : KNewL QE ds s = QE (.ref s.length) (s ++ [.lst ds]) := nr rfl
theorem ok_rapp {a m : ME} {n : Nat} {ds : List D} (ha : a ρ s = .ok (.ref n) s) (hc : s[n]? = some (.lst ds))
    (hm : Ok (m ρ s) fun x s2 => ∃ ds2, s2[n]? = some (.lst ds2) ∧ ds2.length < sizeLine ∧ QS (.nx ρ) (s2.set n (.lst (ds2 ++ [x])))) : Ok (sRApp a m ρ s) QS := by
  unfold sRApp
  rw [ha]
  simp only [Res.bind, hc]
  have e : ∀ r : Res D, Ok r (fun x s2 => ∃ ds2, s2[n]? = some (.lst ds2) ∧ ds2.length < sizeLine ∧ QS (.nx ρ) (s2.set n (.lst (ds2 ++ [x])))) → Ok (r.bind fun x s2 => match s2[n]? with
      | some (.lst ds) => if ds.length < sizeLine then .ok (.nx ρ) (s2.set n (.lst (ds ++ [x]))) else .no
      | _ => .no) QS := fun r h => by
    rw [ok_bind]
    refine Ok.mono h fun x s2 ⟨ds2, h1, h2, h3⟩ => ?_
    rw [h1]
    simp only
    rw [if_pos h2, ok_ok]
    exact h3
  exact e _ hm
theorem ok_rd {f : D → Option D} {a : ME} {n : Nat} {ds : List D} {z : D} (ha : a ρ s = .ok (.ref n) s) (hc : s[n]? = some (.lst ds)) (hf : f (.lst ds) = some z) (q : QE z s) : Ok (eRd f a ρ s) QE := by
  unfold eRd
  rw [ha]
  simp only [Res.bind]
  unfold rdL
  simp only [hc, hf, ofO]
  rw [ok_ok]; exact q
theorem ok_rd2 {f : D → D → Option D} {a b : ME} {x : D} {n : Nat} {ds : List D} {z : D} (ha : a ρ s = .ok x s) (hb : b ρ s = .ok (.ref n) s) (hc : s[n]? = some (.lst ds)) (hf : f x (.lst ds) = some z) (q : QE z s) : Ok (eRd2 f a b ρ s) QE := by
  unfold eRd2
  rw [ha]
  simp only [Res.bind, hb]
  unfold rdL
  simp only [hc, hf, ofO]
  rw [ok_ok]; exact q
theorem ixN_nat {n i : Nat} (h : i < n) : ixN n (i : Int) = some i := by
  unfold ixN
  rw [if_pos (by omega), if_pos (by omega)]
  rfl
def KIAug (i : Nat) (ds : List D) (f : D → D → Option D) (m : ME) (ρ : Env) (Q : Out → Sto → Prop) : D → Sto → Prop := fun k s => match k with
  | .int k => OkO (atI ds k) fun x => OkO (ixN ds.length k) fun j => Ok (m ρ s) fun y s2 => OkO (f x y) fun z => Q (.nx (ρ.set i (some (.lst (ds.set j z))))) s2
  | _ => False
theorem ok_sIAug {i : Nat} {a : ME} {f : D → D → Option D} {m : ME} {ds : List D} (h : ρ[i]? = some (some (.lst ds))) : Ok (sIAug i a f m ρ s) QS = Ok (a ρ s) (KIAug i ds f m ρ QS) := by
  unfold sIAug KIAug
  rw [h]
  simp only
  rw [ok_bind]
  congr
  funext k s1
  cases k with
  | int k =>
    simp only
    cases atI ds k with
    | none => rw [oko_none]; cases ixN ds.length k <;> rw [ok_no]
    | some x =>
      cases ixN ds.length k with
      | none => rw [oko_some, oko_none, ok_no]
      | some j =>
        rw [oko_some, oko_some]
        simp only
        rw [ok_bind]
        congr
        funext y s2
        cases f x y with
        | none => rw [oko_none, ok_no]
        | some z => rw [oko_some, ok_ok]
  | _ => rw [ok_no]
theorem kIAug {i : Nat} {ds : List D} {f : D → D → Option D} {m : ME} {k : Int} : KIAug i ds f m ρ QS (.int k) s = OkO (atI ds k) fun x => OkO (ixN ds.length k) fun j => Ok (m ρ s) fun y s2 => OkO (f x y) fun z => QS (.nx (ρ.set i (some (.lst (ds.set j z))))) s2 := nr rfl
end
theorem rep0 {n : Nat} : oRep (.lst [.int 0]) (.int n) = if -(2 ^ 63) ≤ (n : Int) ∧ (n : Int) < 2 ^ 63 ∧ 1 * n ≤ sizeLine then some (.lst ((List.replicate n (0 : Int)).map .int)) else none := by
  unfold oRep
  simp only [List.length_cons, List.length_nil, Int.toNat_natCast]
  congr 2
  have : ∀ n : Nat, (List.replicate n [D.int 0]).flatten = (List.replicate n (0 : Int)).map .int := by
    intro n
    induction n with
    | zero => rfl
    | succ n ih => rw [List.replicate_succ, List.flatten_cons, ih, List.replicate_succ]; rfl
  rw [this]
end M
/-! P8: the drawing helpers of the laws. -/
namespace M
open PySem PySem.Spec PyProof.Rows L2
abbrev Fn1 := List D → Sto → Res D
def Hnx (nx : Fn1) (xs : List Int) : Prop := ∀ (a : Nat) (t : Sto) (m : Int), 0 < m → nx [.ref 0, .int m] (Sd xs a t) = .ok (.int (nxt xs a m)) (Sd xs (a + 1) t)
def Hpk (pk : Fn1) (xs : List Int) : Prop := ∀ (a : Nat) (t : Sto) (ds : List D), ds ≠ [] → pk [.ref 0, .lst ds] (Sd xs a t) = .ok (ds.getD (nxt xs a ds.length).toNat .non) (Sd xs (a + 1) t)
theorem nx_nat {nx : Fn1} {xs : List Int} (h : Hnx nx xs) (a : Nat) (t : Sto) (m : Nat) (hm : 0 < m) : ∃ n : Nat, n < m ∧ nx [.ref 0, .int (m : Nat)] (Sd xs a t) = .ok (.int n) (Sd xs (a + 1) t) := by
  have hm' : (0 : Int) < (m : Nat) := by omega
  obtain ⟨n, e⟩ := Int.eq_ofNat_of_zero_le (nxt_0 (xs := xs) (a := a) hm')
  have l := nxt_lt (xs := xs) (a := a) hm'
  refine ⟨n, by omega, ?_⟩
  rw [h a t m hm', e]
theorem pk_mem {pk : Fn1} {xs : List Int} (h : Hpk pk xs) (a : Nat) (t : Sto) (ds : List D) (hd : ds ≠ []) : ∃ d, d ∈ ds ∧ pk [.ref 0, .lst ds] (Sd xs a t) = .ok d (Sd xs (a + 1) t) := ⟨_, pick_mem hd, h a t ds hd⟩
theorem sd_len {xs : List Int} {a : Nat} {t : Sto} : (Sd xs a t).length = t.length + 1 := rfl
theorem sd_app {xs : List Int} {a : Nat} {t : Sto} {c : List Cell} : Sd xs a t ++ c = Sd xs a (t ++ c) := rfl
theorem sd_get {xs : List Int} {a j : Nat} {t : Sto} : (Sd xs a t)[j + 1]? = t[j]? := rfl
theorem sd_set {xs : List Int} {a j : Nat} {t : Sto} {c : Cell} : (Sd xs a t).set (j + 1) c = Sd xs a (t.set j c) := rfl
theorem ix_str {z : Str} {i : Nat} (h : i < z.length) (hz : z.length ≤ sizeLine) : ∃ c : Nat, oIx (.str z) (.int i) = some (.str ⟨#[c]⟩) := by
  have l : i < z.cps.toList.length := by rw [Array.length_toList]; exact h
  refine ⟨z.cps.toList[i], ?_⟩
  show (if _ then _ else _) = _
  rw [if_pos hz, atI_nat l]
  rfl
theorem one_len {c : Nat} : Str.length ⟨#[c]⟩ = 1 := rfl
theorem v_mulN {a b : Nat} (h1 : a ≤ 1000000) (h2 : b ≤ 1000000) : oMul (.int a) (.int b) = some (.int ((a : Int) * b)) := v_mul (by omega) (by omega) (by omega) (by omega)
/-! ### names -/
def LET : Str := Str.ofString "abcdefghijklmnopqrstuvwxyz"
def DIG : Str := Str.ofString "0123456789_"
theorem len_let : LET.length = 26 := by decide +kernel
theorem len_dig : DIG.length = 11 := by decide +kernel
def NAME (nx pk : Fn1) : MS :=
  (sSeq (sSet 2 (eC (.str LET)))
    (sSeq (sSet 3 (e2 oIx (eV 2) (eCall nx [(eV 0), (eC (.int 26))])))
    (sSeq (sFor (iR1 [(eCall pk [(eV 0), (eLst [(eC (.int 0)), (eC (.int 0)), (eC (.int 1)), (eC (.int 3))])])]) (gN 4) (sSet 3 (e2 oAdd (eV 3) (e2 oIx (e2 oAdd (eV 2) (eC (.str DIG))) (eCall nx [(eV 0), (eC (.int 37))])))))
    (sSeq (sFor (iR1 [(eC (.int 99))]) (gN 5) (sSeq (sIf (tOfE (eRd2 oNotIn (eV 3) (eV 1))) sBrk sNext)
    (sSet 3 (e2 oAdd (eV 3) (eC (.str "x"))))))
    (sSeq (sRApp (eV 1) (eV 3))
    (sRet (eV 3)))))))
theorem name_ok {nx pk : Fn1} {xs : List Int} {a j : Nat} {t : Sto} {ds : List D} (h1 : Hnx nx xs) (h2 : Hpk pk xs) (ht : t[j]? = some (.lst ds)) (hf : ds.all flatD = true) (hl : ds.length ≤ 1000) :
    Ok (fnM 6 (NAME nx pk) [.ref 0, .ref (j + 1)] (Sd xs a t)) fun v s' => ∃ (a' : Nat) (x : Str), v = .str x ∧ s' = Sd xs a' (t.set j (.lst (ds ++ [.str x]))) := by
  have sl : sizeLine = 16777216 := rfl
  unfold NAME
  obtain ⟨n1, q1, e1⟩ := nx_nat h1 a t 26 (by decide)
  obtain ⟨c1, f1⟩ := ix_str (z := LET) (i := n1) (by rw [len_let]; exact q1) (by rw [len_let]; decide)
  obtain ⟨d, hd, e2⟩ := pk_mem h2 (a + 1) t [.int 0, .int 0, .int 1, .int 3] (by simp)
  obtain ⟨n2, q2, rfl⟩ : ∃ n : Nat, n ≤ 3 ∧ d = .int n := by
    simp only [List.mem_cons, List.not_mem_nil, or_false] at hd
    rcases hd with rfl | rfl | rfl | rfl
    · exact ⟨0, by decide, rfl⟩
    · exact ⟨0, by decide, rfl⟩
    · exact ⟨1, by decide, rfl⟩
    · exact ⟨3, by decide, rfl⟩
  have e1 : nx [.ref 0, .int 26] (Sd xs a t) = .ok (.int n1) (Sd xs (a + 1) t) := e1
  simp only [M.ok_ok, M.ok_no, M.oko_some, M.ok_eC, M.ok_eV0, M.ok_eVs, M.ok_e1, M.k1, M.ok_e2, M.k2a, M.k2, M.ok_evs0, M.ok_evs, M.kA, M.ok_eTup, M.ok_eLst, M.ok_eB, M.ok_eCall, M.kTup, M.kLst, M.kB, M.kCall, M.ok_eIf, M.kIfE, M.ok_eAnd, M.kAnd, M.ok_eOr, M.kOr, M.ok_eNot, M.kNotE, M.ok_eChain, M.kCh, M.kCh2, M.ok_tOfE, M.kTo, M.ok_tTru, M.kTru, M.ok_tAnd, M.ok_tOr, M.ok_tNot, M.kTAnd, M.kTOr, M.kTNot, M.ok_tYes, M.ok_pNo, M.ok_pSome, M.kPs, M.ok_eCut, M.kCut, M.kCut1, M.kCut2, M.ok_eDGet, M.kDg, M.kDg2, M.ok_sSeq, M.kSeq_nx, M.kSeq_rt, M.kSeq_bk, M.kSeq_ct, M.ok_sSet, M.kSet, M.ok_sAsg, M.kAsg, M.ok_sPar, M.kPar, M.ok_sDrop, M.kDrop, M.ok_sRet, M.kRet, M.ok_sRetN, M.ok_sNext, M.ok_sBrk, M.ok_sCnt, M.ok_sIf, M.kIf, M.kAug, M.kApp, M.ok_sFor, M.kFor, M.ok_fnM, M.kFn_rt, M.kFn_nx, M.ok_iS, M.kIS_lst, M.kIS_tup, M.ok_iR1, M.kR1, M.ok_iR2, M.kR2, M.ok_eLstRg, M.ok_eTupRg, M.kRg, M.ok_rg1, M.kRg1, M.ok_rg2, M.kRg2, M.kRg2b, M.ok_eM1, M.kM1, M.kM1b, M.ok_eComp, M.kComp, M.kComp1, M.ok_eComp2, M.kCompC, M.kCompB, M.ok_eDisp, M.kDisp, M.ok_sAug1, M.ok_sApp1, M.kApp1, M.kIt_nx, M.kIt_ct, M.kIt_bk, M.kIt_rt, M.v_sub, M.v_addI, M.v_addA, M.v_subA, M.v_lt, M.v_le, M.v_gt, M.v_ge, M.v_int, M.v_lenL, M.v_lenT, M.v_lenZ, M.v_abs, M.v_max, M.v_min, M.v_neg, M.v_ixL, M.v_ixT, M.v_ixZ, M.v_cutL, M.v_cutT, M.v_tupL, M.v_tupT, M.v_lstL, M.v_lstT, M.tr_bl, M.tr_int, M.tr_lst, M.tr_tup, M.tr_non, M.env0_go, M.g_N, M.g_T, M.g_sC, M.g_sN, M.wipe0, M.wipeS, M.ge_0, M.ge_S, List.set_cons_zero, List.set_cons_succ, List.map_cons, List.map_nil, List.cons_append, List.nil_append, List.length_cons, List.length_nil, Nat.reduceAdd, Nat.reduceSub, List.replicate_succ, List.replicate_zero, Option.bind_some, String.reduceBEq, Int.reduceBEq, Bool.or_self, if_true, if_false, Bool.false_eq_true, Bool.not_true, Bool.not_false, true_and, and_true, decide_true, decide_false, Option.map_some, M.is_non_int, M.is_non_bool, M.is_non_str, M.is_non_tuple, M.is_non_list, M.is_non_dict, M.is_bl_int, M.is_bl_bool, M.is_bl_str, M.is_bl_tuple, M.is_bl_list, M.is_bl_dict, M.is_int_int, M.is_int_bool, M.is_int_str, M.is_int_tuple, M.is_int_list, M.is_int_dict, M.is_str_int, M.is_str_bool, M.is_str_str, M.is_str_tuple, M.is_str_list, M.is_str_dict, M.is_tup_int, M.is_tup_bool, M.is_tup_str, M.is_tup_tuple, M.is_tup_list, M.is_tup_dict, M.is_lst_int, M.is_lst_bool, M.is_lst_str, M.is_lst_tuple, M.is_lst_list, M.is_lst_dict, M.isn_non, M.isn_bl, M.isn_int, M.isn_str, M.isn_tup, M.isn_lst, M.str_beq, M.f_non, M.f_bl, M.f_int, M.f_str, M.fe_str, M.fe_int, M.fe_si, M.fe_is, M.in_tup, M.in_lst, M.nin_tup, M.nin_lst, M.at_0, M.at_1, M.at_2, M.at_3, M.eq_int, M.ne_int, M.eq_bl, M.eq_nil, M.eq_str, M.ne_str, List.all_cons, List.all_nil, List.any_cons, List.any_nil, Bool.and_self, Bool.or_false, Bool.false_or, Bool.or_true, Bool.true_or, Bool.and_true, Bool.true_and, Bool.and_false, Bool.false_and, beq_self_eq_true, bne_self_eq_false, M.ok_comp0, M.ok_compS, M.kCe, M.kCt, M.forD_nil, M.forD_cons, M.kForT_nx, M.kForT_ct, M.kForT_bk, M.kForT_rt, M.cut_1, M.all_1, M.all_2, M.any_1, M.any_2, M.sum_1, M.sum_2, M.all_map, M.any_map, M.sum_map, M.ok_eJs, M.ok_jsN, M.ok_jsC, M.kJs, e1, f1, e2]
  refine ⟨by omega, ?_⟩
  rw [Int.toNat_natCast]
  refine for_rng (fun i ρ s => ∃ (a : Nat) (x : Str) (o4 : Option D), ρ = [some (.ref 0), some (.ref (j + 1)), some (.str LET), some (.str x), o4, none] ∧ s = Sd xs a t ∧ x.length ≤ i + 1) ⟨_, _, _, rfl, rfl, Nat.le_refl 1⟩ ?_ ?_
  · rintro i ρ s hi ⟨a, x, o4, rfl, rfl, hx⟩
    obtain ⟨n3, q3, e3⟩ := nx_nat h1 a t 37 (by decide)
    have ll : (LET ++ DIG).length = 37 := by rw [len_app, len_let, len_dig]
    obtain ⟨c3, f3⟩ := ix_str (z := LET ++ DIG) (i := n3) (by rw [ll]; exact q3) (by rw [ll]; decide)
    have e3 : nx [.ref 0, .int 37] (Sd xs a t) = .ok (.int n3) (Sd xs (a + 1) t) := e3
    simp only [M.ok_ok, M.ok_no, M.oko_some, M.ok_eC, M.ok_eV0, M.ok_eVs, M.ok_e1, M.k1, M.ok_e2, M.k2a, M.k2, M.ok_evs0, M.ok_evs, M.kA, M.ok_eTup, M.ok_eLst, M.ok_eB, M.ok_eCall, M.kTup, M.kLst, M.kB, M.kCall, M.ok_eIf, M.kIfE, M.ok_eAnd, M.kAnd, M.ok_eOr, M.kOr, M.ok_eNot, M.kNotE, M.ok_eChain, M.kCh, M.kCh2, M.ok_tOfE, M.kTo, M.ok_tTru, M.kTru, M.ok_tAnd, M.ok_tOr, M.ok_tNot, M.kTAnd, M.kTOr, M.kTNot, M.ok_tYes, M.ok_pNo, M.ok_pSome, M.kPs, M.ok_eCut, M.kCut, M.kCut1, M.kCut2, M.ok_eDGet, M.kDg, M.kDg2, M.ok_sSeq, M.kSeq_nx, M.kSeq_rt, M.kSeq_bk, M.kSeq_ct, M.ok_sSet, M.kSet, M.ok_sAsg, M.kAsg, M.ok_sPar, M.kPar, M.ok_sDrop, M.kDrop, M.ok_sRet, M.kRet, M.ok_sRetN, M.ok_sNext, M.ok_sBrk, M.ok_sCnt, M.ok_sIf, M.kIf, M.kAug, M.kApp, M.ok_sFor, M.kFor, M.ok_fnM, M.kFn_rt, M.kFn_nx, M.ok_iS, M.kIS_lst, M.kIS_tup, M.ok_iR1, M.kR1, M.ok_iR2, M.kR2, M.ok_eLstRg, M.ok_eTupRg, M.kRg, M.ok_rg1, M.kRg1, M.ok_rg2, M.kRg2, M.kRg2b, M.ok_eM1, M.kM1, M.kM1b, M.ok_eComp, M.kComp, M.kComp1, M.ok_eComp2, M.kCompC, M.kCompB, M.ok_eDisp, M.kDisp, M.ok_sAug1, M.ok_sApp1, M.kApp1, M.kIt_nx, M.kIt_ct, M.kIt_bk, M.kIt_rt, M.v_sub, M.v_addI, M.v_addA, M.v_subA, M.v_lt, M.v_le, M.v_gt, M.v_ge, M.v_int, M.v_lenL, M.v_lenT, M.v_lenZ, M.v_abs, M.v_max, M.v_min, M.v_neg, M.v_ixL, M.v_ixT, M.v_ixZ, M.v_cutL, M.v_cutT, M.v_tupL, M.v_tupT, M.v_lstL, M.v_lstT, M.tr_bl, M.tr_int, M.tr_lst, M.tr_tup, M.tr_non, M.env0_go, M.g_N, M.g_T, M.g_sC, M.g_sN, M.wipe0, M.wipeS, M.ge_0, M.ge_S, List.set_cons_zero, List.set_cons_succ, List.map_cons, List.map_nil, List.cons_append, List.nil_append, List.length_cons, List.length_nil, Nat.reduceAdd, Nat.reduceSub, List.replicate_succ, List.replicate_zero, Option.bind_some, String.reduceBEq, Int.reduceBEq, Bool.or_self, if_true, if_false, Bool.false_eq_true, Bool.not_true, Bool.not_false, true_and, and_true, decide_true, decide_false, Option.map_some, M.is_non_int, M.is_non_bool, M.is_non_str, M.is_non_tuple, M.is_non_list, M.is_non_dict, M.is_bl_int, M.is_bl_bool, M.is_bl_str, M.is_bl_tuple, M.is_bl_list, M.is_bl_dict, M.is_int_int, M.is_int_bool, M.is_int_str, M.is_int_tuple, M.is_int_list, M.is_int_dict, M.is_str_int, M.is_str_bool, M.is_str_str, M.is_str_tuple, M.is_str_list, M.is_str_dict, M.is_tup_int, M.is_tup_bool, M.is_tup_str, M.is_tup_tuple, M.is_tup_list, M.is_tup_dict, M.is_lst_int, M.is_lst_bool, M.is_lst_str, M.is_lst_tuple, M.is_lst_list, M.is_lst_dict, M.isn_non, M.isn_bl, M.isn_int, M.isn_str, M.isn_tup, M.isn_lst, M.str_beq, M.f_non, M.f_bl, M.f_int, M.f_str, M.fe_str, M.fe_int, M.fe_si, M.fe_is, M.in_tup, M.in_lst, M.nin_tup, M.nin_lst, M.at_0, M.at_1, M.at_2, M.at_3, M.eq_int, M.ne_int, M.eq_bl, M.eq_nil, M.eq_str, M.ne_str, List.all_cons, List.all_nil, List.any_cons, List.any_nil, Bool.and_self, Bool.or_false, Bool.false_or, Bool.or_true, Bool.true_or, Bool.and_true, Bool.true_and, Bool.and_false, Bool.false_and, beq_self_eq_true, bne_self_eq_false, M.ok_comp0, M.ok_compS, M.kCe, M.kCt, M.forD_nil, M.forD_cons, M.kForT_nx, M.kForT_ct, M.kForT_bk, M.kForT_rt, M.cut_1, M.all_1, M.all_2, M.any_1, M.any_2, M.sum_1, M.sum_2, M.all_map, M.any_map, M.sum_map, M.ok_eJs, M.ok_jsN, M.ok_jsC, M.kJs, v_addS (show LET.length + DIG.length ≤ sizeLine by rw [len_let, len_dig]; decide), e3, f3, v_addS (show x.length + Str.length ⟨#[c3]⟩ ≤ sizeLine by rw [one_len]; omega)]
    exact ⟨_, _, _, rfl, rfl, by rw [len_app, one_len]; omega⟩
  · rintro ρ s ⟨a, x, o4, rfl, rfl, hx⟩
    simp only [M.ok_ok, M.ok_no, M.oko_some, M.ok_eC, M.ok_eV0, M.ok_eVs, M.ok_e1, M.k1, M.ok_e2, M.k2a, M.k2, M.ok_evs0, M.ok_evs, M.kA, M.ok_eTup, M.ok_eLst, M.ok_eB, M.ok_eCall, M.kTup, M.kLst, M.kB, M.kCall, M.ok_eIf, M.kIfE, M.ok_eAnd, M.kAnd, M.ok_eOr, M.kOr, M.ok_eNot, M.kNotE, M.ok_eChain, M.kCh, M.kCh2, M.ok_tOfE, M.kTo, M.ok_tTru, M.kTru, M.ok_tAnd, M.ok_tOr, M.ok_tNot, M.kTAnd, M.kTOr, M.kTNot, M.ok_tYes, M.ok_pNo, M.ok_pSome, M.kPs, M.ok_eCut, M.kCut, M.kCut1, M.kCut2, M.ok_eDGet, M.kDg, M.kDg2, M.ok_sSeq, M.kSeq_nx, M.kSeq_rt, M.kSeq_bk, M.kSeq_ct, M.ok_sSet, M.kSet, M.ok_sAsg, M.kAsg, M.ok_sPar, M.kPar, M.ok_sDrop, M.kDrop, M.ok_sRet, M.kRet, M.ok_sRetN, M.ok_sNext, M.ok_sBrk, M.ok_sCnt, M.ok_sIf, M.kIf, M.kAug, M.kApp, M.ok_sFor, M.kFor, M.ok_fnM, M.kFn_rt, M.kFn_nx, M.ok_iS, M.kIS_lst, M.kIS_tup, M.ok_iR1, M.kR1, M.ok_iR2, M.kR2, M.ok_eLstRg, M.ok_eTupRg, M.kRg, M.ok_rg1, M.kRg1, M.ok_rg2, M.kRg2, M.kRg2b, M.ok_eM1, M.kM1, M.kM1b, M.ok_eComp, M.kComp, M.kComp1, M.ok_eComp2, M.kCompC, M.kCompB, M.ok_eDisp, M.kDisp, M.ok_sAug1, M.ok_sApp1, M.kApp1, M.kIt_nx, M.kIt_ct, M.kIt_bk, M.kIt_rt, M.v_sub, M.v_addI, M.v_addA, M.v_subA, M.v_lt, M.v_le, M.v_gt, M.v_ge, M.v_int, M.v_lenL, M.v_lenT, M.v_lenZ, M.v_abs, M.v_max, M.v_min, M.v_neg, M.v_ixL, M.v_ixT, M.v_ixZ, M.v_cutL, M.v_cutT, M.v_tupL, M.v_tupT, M.v_lstL, M.v_lstT, M.tr_bl, M.tr_int, M.tr_lst, M.tr_tup, M.tr_non, M.env0_go, M.g_N, M.g_T, M.g_sC, M.g_sN, M.wipe0, M.wipeS, M.ge_0, M.ge_S, List.set_cons_zero, List.set_cons_succ, List.map_cons, List.map_nil, List.cons_append, List.nil_append, List.length_cons, List.length_nil, Nat.reduceAdd, Nat.reduceSub, List.replicate_succ, List.replicate_zero, Option.bind_some, String.reduceBEq, Int.reduceBEq, Bool.or_self, if_true, if_false, Bool.false_eq_true, Bool.not_true, Bool.not_false, true_and, and_true, decide_true, decide_false, Option.map_some, M.is_non_int, M.is_non_bool, M.is_non_str, M.is_non_tuple, M.is_non_list, M.is_non_dict, M.is_bl_int, M.is_bl_bool, M.is_bl_str, M.is_bl_tuple, M.is_bl_list, M.is_bl_dict, M.is_int_int, M.is_int_bool, M.is_int_str, M.is_int_tuple, M.is_int_list, M.is_int_dict, M.is_str_int, M.is_str_bool, M.is_str_str, M.is_str_tuple, M.is_str_list, M.is_str_dict, M.is_tup_int, M.is_tup_bool, M.is_tup_str, M.is_tup_tuple, M.is_tup_list, M.is_tup_dict, M.is_lst_int, M.is_lst_bool, M.is_lst_str, M.is_lst_tuple, M.is_lst_list, M.is_lst_dict, M.isn_non, M.isn_bl, M.isn_int, M.isn_str, M.isn_tup, M.isn_lst, M.str_beq, M.f_non, M.f_bl, M.f_int, M.f_str, M.fe_str, M.fe_int, M.fe_si, M.fe_is, M.in_tup, M.in_lst, M.nin_tup, M.nin_lst, M.at_0, M.at_1, M.at_2, M.at_3, M.eq_int, M.ne_int, M.eq_bl, M.eq_nil, M.eq_str, M.ne_str, List.all_cons, List.all_nil, List.any_cons, List.any_nil, Bool.and_self, Bool.or_false, Bool.false_or, Bool.or_true, Bool.true_or, Bool.and_true, Bool.true_and, Bool.and_false, Bool.false_and, beq_self_eq_true, bne_self_eq_false, M.ok_comp0, M.ok_compS, M.kCe, M.kCt, M.forD_nil, M.forD_cons, M.kForT_nx, M.kForT_ct, M.kForT_bk, M.kForT_rt, M.cut_1, M.all_1, M.all_2, M.any_1, M.any_2, M.sum_1, M.sum_2, M.all_map, M.any_map, M.sum_map, M.ok_eJs, M.ok_jsN, M.ok_jsC, M.kJs]
    refine ⟨by omega, ?_⟩
    refine Ok.mono (for_rng (Q := fun o s => ∃ (x : Str) (o4 o5 : Option D), o = .nx [some (.ref 0), some (.ref (j + 1)), some (.str LET), some (.str x), o4, o5] ∧ s = Sd xs a t) (fun i ρ s => ∃ (x : Str) (o4 o5 : Option D), ρ = [some (.ref 0), some (.ref (j + 1)), some (.str LET), some (.str x), o4, o5] ∧ s = Sd xs a t ∧ x.length ≤ i + 10) ⟨x, _, _, rfl, rfl, by omega⟩ ?_ ?_) ?_
    · rintro i ρ s hi ⟨x, o4, o5, rfl, rfl, hx⟩
      rw [show (99 : Int).toNat = 99 from rfl] at hi
      have lx : (Str.ofString "x").length = 1 := by decide +kernel
      rw [g_N, oko_some, ok_sSeq, ok_sIf, ok_tOfE]
      refine ok_rd2 (x := .str x) rfl rfl (sd_get.trans ht) (nin_lst rfl hf) ?_
      generalize (!ds.any fun z => flatEq z (.str x)) = b
      cases b
      · simp only [M.ok_ok, M.ok_no, M.oko_some, M.ok_eC, M.ok_eV0, M.ok_eVs, M.ok_e1, M.k1, M.ok_e2, M.k2a, M.k2, M.ok_evs0, M.ok_evs, M.kA, M.ok_eTup, M.ok_eLst, M.ok_eB, M.ok_eCall, M.kTup, M.kLst, M.kB, M.kCall, M.ok_eIf, M.kIfE, M.ok_eAnd, M.kAnd, M.ok_eOr, M.kOr, M.ok_eNot, M.kNotE, M.ok_eChain, M.kCh, M.kCh2, M.ok_tOfE, M.kTo, M.ok_tTru, M.kTru, M.ok_tAnd, M.ok_tOr, M.ok_tNot, M.kTAnd, M.kTOr, M.kTNot, M.ok_tYes, M.ok_pNo, M.ok_pSome, M.kPs, M.ok_eCut, M.kCut, M.kCut1, M.kCut2, M.ok_eDGet, M.kDg, M.kDg2, M.ok_sSeq, M.kSeq_nx, M.kSeq_rt, M.kSeq_bk, M.kSeq_ct, M.ok_sSet, M.kSet, M.ok_sAsg, M.kAsg, M.ok_sPar, M.kPar, M.ok_sDrop, M.kDrop, M.ok_sRet, M.kRet, M.ok_sRetN, M.ok_sNext, M.ok_sBrk, M.ok_sCnt, M.ok_sIf, M.kIf, M.kAug, M.kApp, M.ok_sFor, M.kFor, M.ok_fnM, M.kFn_rt, M.kFn_nx, M.ok_iS, M.kIS_lst, M.kIS_tup, M.ok_iR1, M.kR1, M.ok_iR2, M.kR2, M.ok_eLstRg, M.ok_eTupRg, M.kRg, M.ok_rg1, M.kRg1, M.ok_rg2, M.kRg2, M.kRg2b, M.ok_eM1, M.kM1, M.kM1b, M.ok_eComp, M.kComp, M.kComp1, M.ok_eComp2, M.kCompC, M.kCompB, M.ok_eDisp, M.kDisp, M.ok_sAug1, M.ok_sApp1, M.kApp1, M.kIt_nx, M.kIt_ct, M.kIt_bk, M.kIt_rt, M.v_sub, M.v_addI, M.v_addA, M.v_subA, M.v_lt, M.v_le, M.v_gt, M.v_ge, M.v_int, M.v_lenL, M.v_lenT, M.v_lenZ, M.v_abs, M.v_max, M.v_min, M.v_neg, M.v_ixL, M.v_ixT, M.v_ixZ, M.v_cutL, M.v_cutT, M.v_tupL, M.v_tupT, M.v_lstL, M.v_lstT, M.tr_bl, M.tr_int, M.tr_lst, M.tr_tup, M.tr_non, M.env0_go, M.g_N, M.g_T, M.g_sC, M.g_sN, M.wipe0, M.wipeS, M.ge_0, M.ge_S, List.set_cons_zero, List.set_cons_succ, List.map_cons, List.map_nil, List.cons_append, List.nil_append, List.length_cons, List.length_nil, Nat.reduceAdd, Nat.reduceSub, List.replicate_succ, List.replicate_zero, Option.bind_some, String.reduceBEq, Int.reduceBEq, Bool.or_self, if_true, if_false, Bool.false_eq_true, Bool.not_true, Bool.not_false, true_and, and_true, decide_true, decide_false, Option.map_some, M.is_non_int, M.is_non_bool, M.is_non_str, M.is_non_tuple, M.is_non_list, M.is_non_dict, M.is_bl_int, M.is_bl_bool, M.is_bl_str, M.is_bl_tuple, M.is_bl_list, M.is_bl_dict, M.is_int_int, M.is_int_bool, M.is_int_str, M.is_int_tuple, M.is_int_list, M.is_int_dict, M.is_str_int, M.is_str_bool, M.is_str_str, M.is_str_tuple, M.is_str_list, M.is_str_dict, M.is_tup_int, M.is_tup_bool, M.is_tup_str, M.is_tup_tuple, M.is_tup_list, M.is_tup_dict, M.is_lst_int, M.is_lst_bool, M.is_lst_str, M.is_lst_tuple, M.is_lst_list, M.is_lst_dict, M.isn_non, M.isn_bl, M.isn_int, M.isn_str, M.isn_tup, M.isn_lst, M.str_beq, M.f_non, M.f_bl, M.f_int, M.f_str, M.fe_str, M.fe_int, M.fe_si, M.fe_is, M.in_tup, M.in_lst, M.nin_tup, M.nin_lst, M.at_0, M.at_1, M.at_2, M.at_3, M.eq_int, M.ne_int, M.eq_bl, M.eq_nil, M.eq_str, M.ne_str, List.all_cons, List.all_nil, List.any_cons, List.any_nil, Bool.and_self, Bool.or_false, Bool.false_or, Bool.or_true, Bool.true_or, Bool.and_true, Bool.true_and, Bool.and_false, Bool.false_and, beq_self_eq_true, bne_self_eq_false, M.ok_comp0, M.ok_compS, M.kCe, M.kCt, M.forD_nil, M.forD_cons, M.kForT_nx, M.kForT_ct, M.kForT_bk, M.kForT_rt, M.cut_1, M.all_1, M.all_2, M.any_1, M.any_2, M.sum_1, M.sum_2, M.all_map, M.any_map, M.sum_map, M.ok_eJs, M.ok_jsN, M.ok_jsC, M.kJs, v_addS (show x.length + (Str.ofString "x").length ≤ sizeLine by omega)]
        exact ⟨_, _, _, rfl, by rw [len_app]; omega⟩
      · simp only [M.ok_ok, M.ok_no, M.oko_some, M.ok_eC, M.ok_eV0, M.ok_eVs, M.ok_e1, M.k1, M.ok_e2, M.k2a, M.k2, M.ok_evs0, M.ok_evs, M.kA, M.ok_eTup, M.ok_eLst, M.ok_eB, M.ok_eCall, M.kTup, M.kLst, M.kB, M.kCall, M.ok_eIf, M.kIfE, M.ok_eAnd, M.kAnd, M.ok_eOr, M.kOr, M.ok_eNot, M.kNotE, M.ok_eChain, M.kCh, M.kCh2, M.ok_tOfE, M.kTo, M.ok_tTru, M.kTru, M.ok_tAnd, M.ok_tOr, M.ok_tNot, M.kTAnd, M.kTOr, M.kTNot, M.ok_tYes, M.ok_pNo, M.ok_pSome, M.kPs, M.ok_eCut, M.kCut, M.kCut1, M.kCut2, M.ok_eDGet, M.kDg, M.kDg2, M.ok_sSeq, M.kSeq_nx, M.kSeq_rt, M.kSeq_bk, M.kSeq_ct, M.ok_sSet, M.kSet, M.ok_sAsg, M.kAsg, M.ok_sPar, M.kPar, M.ok_sDrop, M.kDrop, M.ok_sRet, M.kRet, M.ok_sRetN, M.ok_sNext, M.ok_sBrk, M.ok_sCnt, M.ok_sIf, M.kIf, M.kAug, M.kApp, M.ok_sFor, M.kFor, M.ok_fnM, M.kFn_rt, M.kFn_nx, M.ok_iS, M.kIS_lst, M.kIS_tup, M.ok_iR1, M.kR1, M.ok_iR2, M.kR2, M.ok_eLstRg, M.ok_eTupRg, M.kRg, M.ok_rg1, M.kRg1, M.ok_rg2, M.kRg2, M.kRg2b, M.ok_eM1, M.kM1, M.kM1b, M.ok_eComp, M.kComp, M.kComp1, M.ok_eComp2, M.kCompC, M.kCompB, M.ok_eDisp, M.kDisp, M.ok_sAug1, M.ok_sApp1, M.kApp1, M.kIt_nx, M.kIt_ct, M.kIt_bk, M.kIt_rt, M.v_sub, M.v_addI, M.v_addA, M.v_subA, M.v_lt, M.v_le, M.v_gt, M.v_ge, M.v_int, M.v_lenL, M.v_lenT, M.v_lenZ, M.v_abs, M.v_max, M.v_min, M.v_neg, M.v_ixL, M.v_ixT, M.v_ixZ, M.v_cutL, M.v_cutT, M.v_tupL, M.v_tupT, M.v_lstL, M.v_lstT, M.tr_bl, M.tr_int, M.tr_lst, M.tr_tup, M.tr_non, M.env0_go, M.g_N, M.g_T, M.g_sC, M.g_sN, M.wipe0, M.wipeS, M.ge_0, M.ge_S, List.set_cons_zero, List.set_cons_succ, List.map_cons, List.map_nil, List.cons_append, List.nil_append, List.length_cons, List.length_nil, Nat.reduceAdd, Nat.reduceSub, List.replicate_succ, List.replicate_zero, Option.bind_some, String.reduceBEq, Int.reduceBEq, Bool.or_self, if_true, if_false, Bool.false_eq_true, Bool.not_true, Bool.not_false, true_and, and_true, decide_true, decide_false, Option.map_some, M.is_non_int, M.is_non_bool, M.is_non_str, M.is_non_tuple, M.is_non_list, M.is_non_dict, M.is_bl_int, M.is_bl_bool, M.is_bl_str, M.is_bl_tuple, M.is_bl_list, M.is_bl_dict, M.is_int_int, M.is_int_bool, M.is_int_str, M.is_int_tuple, M.is_int_list, M.is_int_dict, M.is_str_int, M.is_str_bool, M.is_str_str, M.is_str_tuple, M.is_str_list, M.is_str_dict, M.is_tup_int, M.is_tup_bool, M.is_tup_str, M.is_tup_tuple, M.is_tup_list, M.is_tup_dict, M.is_lst_int, M.is_lst_bool, M.is_lst_str, M.is_lst_tuple, M.is_lst_list, M.is_lst_dict, M.isn_non, M.isn_bl, M.isn_int, M.isn_str, M.isn_tup, M.isn_lst, M.str_beq, M.f_non, M.f_bl, M.f_int, M.f_str, M.fe_str, M.fe_int, M.fe_si, M.fe_is, M.in_tup, M.in_lst, M.nin_tup, M.nin_lst, M.at_0, M.at_1, M.at_2, M.at_3, M.eq_int, M.ne_int, M.eq_bl, M.eq_nil, M.eq_str, M.ne_str, List.all_cons, List.all_nil, List.any_cons, List.any_nil, Bool.and_self, Bool.or_false, Bool.false_or, Bool.or_true, Bool.true_or, Bool.and_true, Bool.true_and, Bool.and_false, Bool.false_and, beq_self_eq_true, bne_self_eq_false, M.ok_comp0, M.ok_compS, M.kCe, M.kCt, M.forD_nil, M.forD_cons, M.kForT_nx, M.kForT_ct, M.kForT_bk, M.kForT_rt, M.cut_1, M.all_1, M.all_2, M.any_1, M.any_2, M.sum_1, M.sum_2, M.all_map, M.any_map, M.sum_map, M.ok_eJs, M.ok_jsN, M.ok_jsC, M.kJs]
        exact ⟨_, _, _, rfl⟩
    · rintro ρ s ⟨x, o4, o5, rfl, rfl, hx⟩
      exact ⟨_, _, _, rfl, rfl⟩
    · rintro o s ⟨x, o4, o5, rfl, rfl⟩
      rw [kSeq_nx, ok_sSeq]
      refine ok_rapp (n := j + 1) rfl (sd_get.trans ht) ?_
      show Ok (Res.ok (D.str x) (Sd xs a t)) _
      rw [ok_ok]
      refine ⟨ds, sd_get.trans ht, by omega, ?_⟩
      simp only [M.ok_ok, M.ok_no, M.oko_some, M.ok_eC, M.ok_eV0, M.ok_eVs, M.ok_e1, M.k1, M.ok_e2, M.k2a, M.k2, M.ok_evs0, M.ok_evs, M.kA, M.ok_eTup, M.ok_eLst, M.ok_eB, M.ok_eCall, M.kTup, M.kLst, M.kB, M.kCall, M.ok_eIf, M.kIfE, M.ok_eAnd, M.kAnd, M.ok_eOr, M.kOr, M.ok_eNot, M.kNotE, M.ok_eChain, M.kCh, M.kCh2, M.ok_tOfE, M.kTo, M.ok_tTru, M.kTru, M.ok_tAnd, M.ok_tOr, M.ok_tNot, M.kTAnd, M.kTOr, M.kTNot, M.ok_tYes, M.ok_pNo, M.ok_pSome, M.kPs, M.ok_eCut, M.kCut, M.kCut1, M.kCut2, M.ok_eDGet, M.kDg, M.kDg2, M.ok_sSeq, M.kSeq_nx, M.kSeq_rt, M.kSeq_bk, M.kSeq_ct, M.ok_sSet, M.kSet, M.ok_sAsg, M.kAsg, M.ok_sPar, M.kPar, M.ok_sDrop, M.kDrop, M.ok_sRet, M.kRet, M.ok_sRetN, M.ok_sNext, M.ok_sBrk, M.ok_sCnt, M.ok_sIf, M.kIf, M.kAug, M.kApp, M.ok_sFor, M.kFor, M.ok_fnM, M.kFn_rt, M.kFn_nx, M.ok_iS, M.kIS_lst, M.kIS_tup, M.ok_iR1, M.kR1, M.ok_iR2, M.kR2, M.ok_eLstRg, M.ok_eTupRg, M.kRg, M.ok_rg1, M.kRg1, M.ok_rg2, M.kRg2, M.kRg2b, M.ok_eM1, M.kM1, M.kM1b, M.ok_eComp, M.kComp, M.kComp1, M.ok_eComp2, M.kCompC, M.kCompB, M.ok_eDisp, M.kDisp, M.ok_sAug1, M.ok_sApp1, M.kApp1, M.kIt_nx, M.kIt_ct, M.kIt_bk, M.kIt_rt, M.v_sub, M.v_addI, M.v_addA, M.v_subA, M.v_lt, M.v_le, M.v_gt, M.v_ge, M.v_int, M.v_lenL, M.v_lenT, M.v_lenZ, M.v_abs, M.v_max, M.v_min, M.v_neg, M.v_ixL, M.v_ixT, M.v_ixZ, M.v_cutL, M.v_cutT, M.v_tupL, M.v_tupT, M.v_lstL, M.v_lstT, M.tr_bl, M.tr_int, M.tr_lst, M.tr_tup, M.tr_non, M.env0_go, M.g_N, M.g_T, M.g_sC, M.g_sN, M.wipe0, M.wipeS, M.ge_0, M.ge_S, List.set_cons_zero, List.set_cons_succ, List.map_cons, List.map_nil, List.cons_append, List.nil_append, List.length_cons, List.length_nil, Nat.reduceAdd, Nat.reduceSub, List.replicate_succ, List.replicate_zero, Option.bind_some, String.reduceBEq, Int.reduceBEq, Bool.or_self, if_true, if_false, Bool.false_eq_true, Bool.not_true, Bool.not_false, true_and, and_true, decide_true, decide_false, Option.map_some, M.is_non_int, M.is_non_bool, M.is_non_str, M.is_non_tuple, M.is_non_list, M.is_non_dict, M.is_bl_int, M.is_bl_bool, M.is_bl_str, M.is_bl_tuple, M.is_bl_list, M.is_bl_dict, M.is_int_int, M.is_int_bool, M.is_int_str, M.is_int_tuple, M.is_int_list, M.is_int_dict, M.is_str_int, M.is_str_bool, M.is_str_str, M.is_str_tuple, M.is_str_list, M.is_str_dict, M.is_tup_int, M.is_tup_bool, M.is_tup_str, M.is_tup_tuple, M.is_tup_list, M.is_tup_dict, M.is_lst_int, M.is_lst_bool, M.is_lst_str, M.is_lst_tuple, M.is_lst_list, M.is_lst_dict, M.isn_non, M.isn_bl, M.isn_int, M.isn_str, M.isn_tup, M.isn_lst, M.str_beq, M.f_non, M.f_bl, M.f_int, M.f_str, M.fe_str, M.fe_int, M.fe_si, M.fe_is, M.in_tup, M.in_lst, M.nin_tup, M.nin_lst, M.at_0, M.at_1, M.at_2, M.at_3, M.eq_int, M.ne_int, M.eq_bl, M.eq_nil, M.eq_str, M.ne_str, List.all_cons, List.all_nil, List.any_cons, List.any_nil, Bool.and_self, Bool.or_false, Bool.false_or, Bool.or_true, Bool.true_or, Bool.and_true, Bool.true_and, Bool.and_false, Bool.false_and, beq_self_eq_true, bne_self_eq_false, M.ok_comp0, M.ok_compS, M.kCe, M.kCt, M.forD_nil, M.forD_cons, M.kForT_nx, M.kForT_ct, M.kForT_bk, M.kForT_rt, M.cut_1, M.all_1, M.all_2, M.any_1, M.any_2, M.sum_1, M.sum_2, M.all_map, M.any_map, M.sum_map, M.ok_eJs, M.ok_jsN, M.ok_jsC, M.kJs]
      exact ⟨a, x, rfl, sd_set⟩
/-! ### one taken out -/
def TAKE (nx : Fn1) : MS :=
  (sSeq (sSet 2 (eCall nx [(eV 0), (e1 oLen (eV 1))]))
    (sRet (eTup [(e2 oIx (eV 1) (eV 2)), (e2 oAdd (eCut (eV 1) pNo (pSome (eV 2))) (eCut (eV 1) (pSome (e2 oAdd (eV 2) (eC (.int 1)))) pNo))])))
theorem cut_to {α : Type} {as : List α} {i : Nat} (h : i ≤ as.length) : cutG as none (some i) = as.take i := by
  unfold cutG HT.sIx
  simp only [List.drop_zero, Nat.sub_zero]
  split
  · omega
  · congr 1
    omega
theorem cut_from {α : Type} {as : List α} {i : Nat} (h : i ≤ as.length) : cutG as (some (i : Int)) none = as.drop i := by
  have : HT.sIx as.length 0 (some (i : Int)) = i := by
    unfold HT.sIx
    simp only
    split <;> omega
  unfold cutG
  rw [this]
  show List.take (as.length - i) _ = _
  rw [List.take_of_length_le (by rw [List.length_drop]; exact Nat.le_refl _)]
theorem take_ok {nx : Fn1} {xs : List Int} {a : Nat} {t : Sto} {ds : List D} (h1 : Hnx nx xs) (hd : ds ≠ []) (hl : ds.length ≤ 1000) :
    ∃ (i : Nat) (h : i < ds.length), fnM 3 (TAKE nx) [.ref 0, .lst ds] (Sd xs a t) = .ok (.tup [ds[i], .lst (ds.take i ++ ds.drop (i + 1))]) (Sd xs (a + 1) t) := by
  have sl : sizeLine = 16777216 := rfl
  have l : 0 < ds.length := List.length_pos_iff.mpr hd
  obtain ⟨n, q, e⟩ := nx_nat h1 a t ds.length l
  refine ⟨n, q, ?_⟩
  apply Ok.eq
  unfold TAKE
  have e5 : (n : Int) + 1 = ((n + 1 : Nat) : Int) := by omega
  simp only [M.ok_ok, M.ok_no, M.oko_some, M.ok_eC, M.ok_eV0, M.ok_eVs, M.ok_e1, M.k1, M.ok_e2, M.k2a, M.k2, M.ok_evs0, M.ok_evs, M.kA, M.ok_eTup, M.ok_eLst, M.ok_eB, M.ok_eCall, M.kTup, M.kLst, M.kB, M.kCall, M.ok_eIf, M.kIfE, M.ok_eAnd, M.kAnd, M.ok_eOr, M.kOr, M.ok_eNot, M.kNotE, M.ok_eChain, M.kCh, M.kCh2, M.ok_tOfE, M.kTo, M.ok_tTru, M.kTru, M.ok_tAnd, M.ok_tOr, M.ok_tNot, M.kTAnd, M.kTOr, M.kTNot, M.ok_tYes, M.ok_pNo, M.ok_pSome, M.kPs, M.ok_eCut, M.kCut, M.kCut1, M.kCut2, M.ok_eDGet, M.kDg, M.kDg2, M.ok_sSeq, M.kSeq_nx, M.kSeq_rt, M.kSeq_bk, M.kSeq_ct, M.ok_sSet, M.kSet, M.ok_sAsg, M.kAsg, M.ok_sPar, M.kPar, M.ok_sDrop, M.kDrop, M.ok_sRet, M.kRet, M.ok_sRetN, M.ok_sNext, M.ok_sBrk, M.ok_sCnt, M.ok_sIf, M.kIf, M.kAug, M.kApp, M.ok_sFor, M.kFor, M.ok_fnM, M.kFn_rt, M.kFn_nx, M.ok_iS, M.kIS_lst, M.kIS_tup, M.ok_iR1, M.kR1, M.ok_iR2, M.kR2, M.ok_eLstRg, M.ok_eTupRg, M.kRg, M.ok_rg1, M.kRg1, M.ok_rg2, M.kRg2, M.kRg2b, M.ok_eM1, M.kM1, M.kM1b, M.ok_eComp, M.kComp, M.kComp1, M.ok_eComp2, M.kCompC, M.kCompB, M.ok_eDisp, M.kDisp, M.ok_sAug1, M.ok_sApp1, M.kApp1, M.kIt_nx, M.kIt_ct, M.kIt_bk, M.kIt_rt, M.v_sub, M.v_addI, M.v_addA, M.v_subA, M.v_lt, M.v_le, M.v_gt, M.v_ge, M.v_int, M.v_lenL, M.v_lenT, M.v_lenZ, M.v_abs, M.v_max, M.v_min, M.v_neg, M.v_ixL, M.v_ixT, M.v_ixZ, M.v_cutL, M.v_cutT, M.v_tupL, M.v_tupT, M.v_lstL, M.v_lstT, M.tr_bl, M.tr_int, M.tr_lst, M.tr_tup, M.tr_non, M.env0_go, M.g_N, M.g_T, M.g_sC, M.g_sN, M.wipe0, M.wipeS, M.ge_0, M.ge_S, List.set_cons_zero, List.set_cons_succ, List.map_cons, List.map_nil, List.cons_append, List.nil_append, List.length_cons, List.length_nil, Nat.reduceAdd, Nat.reduceSub, List.replicate_succ, List.replicate_zero, Option.bind_some, String.reduceBEq, Int.reduceBEq, Bool.or_self, if_true, if_false, Bool.false_eq_true, Bool.not_true, Bool.not_false, true_and, and_true, decide_true, decide_false, Option.map_some, M.is_non_int, M.is_non_bool, M.is_non_str, M.is_non_tuple, M.is_non_list, M.is_non_dict, M.is_bl_int, M.is_bl_bool, M.is_bl_str, M.is_bl_tuple, M.is_bl_list, M.is_bl_dict, M.is_int_int, M.is_int_bool, M.is_int_str, M.is_int_tuple, M.is_int_list, M.is_int_dict, M.is_str_int, M.is_str_bool, M.is_str_str, M.is_str_tuple, M.is_str_list, M.is_str_dict, M.is_tup_int, M.is_tup_bool, M.is_tup_str, M.is_tup_tuple, M.is_tup_list, M.is_tup_dict, M.is_lst_int, M.is_lst_bool, M.is_lst_str, M.is_lst_tuple, M.is_lst_list, M.is_lst_dict, M.isn_non, M.isn_bl, M.isn_int, M.isn_str, M.isn_tup, M.isn_lst, M.str_beq, M.f_non, M.f_bl, M.f_int, M.f_str, M.fe_str, M.fe_int, M.fe_si, M.fe_is, M.in_tup, M.in_lst, M.nin_tup, M.nin_lst, M.at_0, M.at_1, M.at_2, M.at_3, M.eq_int, M.ne_int, M.eq_bl, M.eq_nil, M.eq_str, M.ne_str, List.all_cons, List.all_nil, List.any_cons, List.any_nil, Bool.and_self, Bool.or_false, Bool.false_or, Bool.or_true, Bool.true_or, Bool.and_true, Bool.true_and, Bool.and_false, Bool.false_and, beq_self_eq_true, bne_self_eq_false, M.ok_comp0, M.ok_compS, M.kCe, M.kCt, M.forD_nil, M.forD_cons, M.kForT_nx, M.kForT_ct, M.kForT_bk, M.kForT_rt, M.cut_1, M.all_1, M.all_2, M.any_1, M.any_2, M.sum_1, M.sum_2, M.all_map, M.any_map, M.sum_map, M.ok_eJs, M.ok_jsN, M.ok_jsC, M.kJs, e, atI_nat q, e5, cut_to (show n ≤ ds.length by omega), cut_from (show n + 1 ≤ ds.length by omega), v_addL (show (ds.take n).length + (ds.drop (n + 1)).length ≤ sizeLine by rw [List.length_take, List.length_drop]; omega)]

/-! ### places and links -/
abbrev L4 := (Int × Int) × (Int × Int)
def l4 (l : L4) : List Int := [l.1.1, l.1.2, l.2.1, l.2.2]
def E4 : Enc L4 := Enc.via (Enc.tup Enc.int) l4 fun a b h => by
  obtain ⟨⟨a1, a2⟩, a3, a4⟩ := a
  obtain ⟨⟨b1, b2⟩, b3, b4⟩ := b
  unfold l4 at h
  simp only [List.cons.injEq, and_true] at h
  obtain ⟨rfl, rfl, rfl, rfl⟩ := h
  rfl
def q4 (l : L4) : D := E4.f l
theorem q4_go {l : L4} : q4 l = .tup [.int l.1.1, .int l.1.2, .int l.2.1, .int l.2.2] := rfl
def flp (l : L4) : L4 := (l.2, l.1)
def E2 : Enc (Int × Int) := Enc.two Enc.int Enc.int
def p2 (p : Int × Int) : D := .tup [.int p.1, .int p.2]
def sw (p : Int × D) : D := .tup [.int p.1, p.2]
def hD (h : Str × Int × Int) : D := .tup [.str h.1, .int h.2.1, .int h.2.2]
theorem sort4 (ls : List L4) : ∃ ys : List L4, ys.Perm ls ∧ oSortedD (.lst (ls.map q4)) = some (.lst (ys.map q4)) := by
  refine E4.sort ls (sortOk_tups ?_ ?_ ?_)
  · intro p hp q hq
    obtain ⟨l, _, rfl⟩ := List.mem_map.mp hp
    obtain ⟨m, _, rfl⟩ := List.mem_map.mp hq
    exact PySem.W.alike_ints (l4 l) (l4 m)
  · intro p hp
    obtain ⟨l, _, rfl⟩ := List.mem_map.mp hp
    exact ⟨_, _, rfl⟩
  · intro p hp
    obtain ⟨l, _, rfl⟩ := List.mem_map.mp hp
    exact Nat.le_trans (E4.dep l) (by decide)
theorem sort_hs (hs : List (Str × Int × Int)) : oSortedD (.lst (hs.map hD)) = some (.lst ((hs.map hD).mergeSort leD)) := by
  refine v_sort (ps := hs.map fun h => .tuple [.str h.1, .int h.2.1, .int h.2.2]) (toPys_map fun l _ => rfl) (sortOk_tups ?_ ?_ ?_)
  · intro p hp q hq
    obtain ⟨i, _, rfl⟩ := List.mem_map.mp hp
    obtain ⟨j, _, rfl⟩ := List.mem_map.mp hq
    simp [PySem.W.alike, PySem.W.alikeAll]
  · intro p hp
    obtain ⟨i, _, rfl⟩ := List.mem_map.mp hp
    exact ⟨_, _, rfl⟩
  · intro p hp
    obtain ⟨i, _, rfl⟩ := List.mem_map.mp hp
    simp [PyData.depth, PyData.depthAll]
/-! ### joined places -/
def JOINED (nx : Fn1) : MS :=
  (sSeq (sRApp (eV 3) (e2 oAdd (eV 1) (eV 2)))
    (sIf (tOfE (e2 oGt (eCall nx [(eV 0), (eC (.int 4))]) (eC (.int 0)))) (sRApp (eV 3) (e2 oAdd (eV 2) (eV 1))) sNext))
theorem joined_ok {nx : Fn1} {xs : List Int} {a j : Nat} {t : Sto} {p q : Int × Int} {lk : List L4} (h1 : Hnx nx xs) (ht : t[j]? = some (.lst (lk.map q4))) (hl : lk.length ≤ 1000) :
    Ok (fnM 4 (JOINED nx) [.ref 0, p2 p, p2 q, .ref (j + 1)] (Sd xs a t)) fun v s' => ∃ (a' : Nat) (lk' : List L4), s' = Sd xs a' (t.set j (.lst (lk'.map q4))) ∧ lk'.length ≤ lk.length + 2 := by
  have sl : sizeLine = 16777216 := rfl
  unfold JOINED p2
  have hj : j < t.length := by
    rcases Nat.lt_or_ge j t.length with h | h
    · exact h
    · rw [List.getElem?_eq_none h] at ht; cases ht
  have ad : ∀ p q : Int × Int, oAdd (.tup [.int p.1, .int p.2]) (.tup [.int q.1, .int q.2]) = some (q4 (p, q)) := fun p q => v_addT (show (2 : Nat) + 2 ≤ sizeLine by decide)
  obtain ⟨n, q1, e1⟩ := nx_nat h1 a (t.set j (.lst ((lk ++ [(p, q)]).map q4))) 4 (by decide)
  have e1 : nx [.ref 0, .int 4] (Sd xs a (t.set j (.lst ((lk ++ [(p, q)]).map q4)))) = .ok (.int n) (Sd xs (a + 1) (t.set j (.lst ((lk ++ [(p, q)]).map q4)))) := e1
  rw [ok_fnM, env0_go, ok_sSeq]
  refine ok_rapp (n := j + 1) rfl (sd_get.trans ht) ?_
  simp only [M.ok_ok, M.ok_no, M.oko_some, M.ok_eC, M.ok_eV0, M.ok_eVs, M.ok_e1, M.k1, M.ok_e2, M.k2a, M.k2, M.ok_evs0, M.ok_evs, M.kA, M.ok_eTup, M.ok_eLst, M.ok_eB, M.ok_eCall, M.kTup, M.kLst, M.kB, M.kCall, M.ok_eIf, M.kIfE, M.ok_eAnd, M.kAnd, M.ok_eOr, M.kOr, M.ok_eNot, M.kNotE, M.ok_eChain, M.kCh, M.kCh2, M.ok_tOfE, M.kTo, M.ok_tTru, M.kTru, M.ok_tAnd, M.ok_tOr, M.ok_tNot, M.kTAnd, M.kTOr, M.kTNot, M.ok_tYes, M.ok_pNo, M.ok_pSome, M.kPs, M.ok_eCut, M.kCut, M.kCut1, M.kCut2, M.ok_eDGet, M.kDg, M.kDg2, M.ok_sSeq, M.kSeq_nx, M.kSeq_rt, M.kSeq_bk, M.kSeq_ct, M.ok_sSet, M.kSet, M.ok_sAsg, M.kAsg, M.ok_sPar, M.kPar, M.ok_sDrop, M.kDrop, M.ok_sRet, M.kRet, M.ok_sRetN, M.ok_sNext, M.ok_sBrk, M.ok_sCnt, M.ok_sIf, M.kIf, M.kAug, M.kApp, M.ok_sFor, M.kFor, M.ok_fnM, M.kFn_rt, M.kFn_nx, M.ok_iS, M.kIS_lst, M.kIS_tup, M.ok_iR1, M.kR1, M.ok_iR2, M.kR2, M.ok_eLstRg, M.ok_eTupRg, M.kRg, M.ok_rg1, M.kRg1, M.ok_rg2, M.kRg2, M.kRg2b, M.ok_eM1, M.kM1, M.kM1b, M.ok_eComp, M.kComp, M.kComp1, M.ok_eComp2, M.kCompC, M.kCompB, M.ok_eDisp, M.kDisp, M.ok_sAug1, M.ok_sApp1, M.kApp1, M.kIt_nx, M.kIt_ct, M.kIt_bk, M.kIt_rt, M.v_sub, M.v_addI, M.v_addA, M.v_subA, M.v_lt, M.v_le, M.v_gt, M.v_ge, M.v_int, M.v_lenL, M.v_lenT, M.v_lenZ, M.v_abs, M.v_max, M.v_min, M.v_neg, M.v_ixL, M.v_ixT, M.v_ixZ, M.v_cutL, M.v_cutT, M.v_tupL, M.v_tupT, M.v_lstL, M.v_lstT, M.tr_bl, M.tr_int, M.tr_lst, M.tr_tup, M.tr_non, M.env0_go, M.g_N, M.g_T, M.g_sC, M.g_sN, M.wipe0, M.wipeS, M.ge_0, M.ge_S, List.set_cons_zero, List.set_cons_succ, List.map_cons, List.map_nil, List.cons_append, List.nil_append, List.length_cons, List.length_nil, Nat.reduceAdd, Nat.reduceSub, List.replicate_succ, List.replicate_zero, Option.bind_some, String.reduceBEq, Int.reduceBEq, Bool.or_self, if_true, if_false, Bool.false_eq_true, Bool.not_true, Bool.not_false, true_and, and_true, decide_true, decide_false, Option.map_some, M.is_non_int, M.is_non_bool, M.is_non_str, M.is_non_tuple, M.is_non_list, M.is_non_dict, M.is_bl_int, M.is_bl_bool, M.is_bl_str, M.is_bl_tuple, M.is_bl_list, M.is_bl_dict, M.is_int_int, M.is_int_bool, M.is_int_str, M.is_int_tuple, M.is_int_list, M.is_int_dict, M.is_str_int, M.is_str_bool, M.is_str_str, M.is_str_tuple, M.is_str_list, M.is_str_dict, M.is_tup_int, M.is_tup_bool, M.is_tup_str, M.is_tup_tuple, M.is_tup_list, M.is_tup_dict, M.is_lst_int, M.is_lst_bool, M.is_lst_str, M.is_lst_tuple, M.is_lst_list, M.is_lst_dict, M.isn_non, M.isn_bl, M.isn_int, M.isn_str, M.isn_tup, M.isn_lst, M.str_beq, M.f_non, M.f_bl, M.f_int, M.f_str, M.fe_str, M.fe_int, M.fe_si, M.fe_is, M.in_tup, M.in_lst, M.nin_tup, M.nin_lst, M.at_0, M.at_1, M.at_2, M.at_3, M.eq_int, M.ne_int, M.eq_bl, M.eq_nil, M.eq_str, M.ne_str, List.all_cons, List.all_nil, List.any_cons, List.any_nil, Bool.and_self, Bool.or_false, Bool.false_or, Bool.or_true, Bool.true_or, Bool.and_true, Bool.true_and, Bool.and_false, Bool.false_and, beq_self_eq_true, bne_self_eq_false, M.ok_comp0, M.ok_compS, M.kCe, M.kCt, M.forD_nil, M.forD_cons, M.kForT_nx, M.kForT_ct, M.kForT_bk, M.kForT_rt, M.cut_1, M.all_1, M.all_2, M.any_1, M.any_2, M.sum_1, M.sum_2, M.all_map, M.any_map, M.sum_map, M.ok_eJs, M.ok_jsN, M.ok_jsC, M.kJs, ad]
  refine ⟨lk.map q4, sd_get.trans ht, by rw [List.length_map]; omega, ?_⟩
  have m1 : ∀ (lk : List L4) (l : L4), lk.map q4 ++ [q4 l] = (lk ++ [l]).map q4 := fun lk l => by rw [List.map_append]; rfl
  rw [m1, sd_set]
  simp only [M.ok_ok, M.ok_no, M.oko_some, M.ok_eC, M.ok_eV0, M.ok_eVs, M.ok_e1, M.k1, M.ok_e2, M.k2a, M.k2, M.ok_evs0, M.ok_evs, M.kA, M.ok_eTup, M.ok_eLst, M.ok_eB, M.ok_eCall, M.kTup, M.kLst, M.kB, M.kCall, M.ok_eIf, M.kIfE, M.ok_eAnd, M.kAnd, M.ok_eOr, M.kOr, M.ok_eNot, M.kNotE, M.ok_eChain, M.kCh, M.kCh2, M.ok_tOfE, M.kTo, M.ok_tTru, M.kTru, M.ok_tAnd, M.ok_tOr, M.ok_tNot, M.kTAnd, M.kTOr, M.kTNot, M.ok_tYes, M.ok_pNo, M.ok_pSome, M.kPs, M.ok_eCut, M.kCut, M.kCut1, M.kCut2, M.ok_eDGet, M.kDg, M.kDg2, M.ok_sSeq, M.kSeq_nx, M.kSeq_rt, M.kSeq_bk, M.kSeq_ct, M.ok_sSet, M.kSet, M.ok_sAsg, M.kAsg, M.ok_sPar, M.kPar, M.ok_sDrop, M.kDrop, M.ok_sRet, M.kRet, M.ok_sRetN, M.ok_sNext, M.ok_sBrk, M.ok_sCnt, M.ok_sIf, M.kIf, M.kAug, M.kApp, M.ok_sFor, M.kFor, M.ok_fnM, M.kFn_rt, M.kFn_nx, M.ok_iS, M.kIS_lst, M.kIS_tup, M.ok_iR1, M.kR1, M.ok_iR2, M.kR2, M.ok_eLstRg, M.ok_eTupRg, M.kRg, M.ok_rg1, M.kRg1, M.ok_rg2, M.kRg2, M.kRg2b, M.ok_eM1, M.kM1, M.kM1b, M.ok_eComp, M.kComp, M.kComp1, M.ok_eComp2, M.kCompC, M.kCompB, M.ok_eDisp, M.kDisp, M.ok_sAug1, M.ok_sApp1, M.kApp1, M.kIt_nx, M.kIt_ct, M.kIt_bk, M.kIt_rt, M.v_sub, M.v_addI, M.v_addA, M.v_subA, M.v_lt, M.v_le, M.v_gt, M.v_ge, M.v_int, M.v_lenL, M.v_lenT, M.v_lenZ, M.v_abs, M.v_max, M.v_min, M.v_neg, M.v_ixL, M.v_ixT, M.v_ixZ, M.v_cutL, M.v_cutT, M.v_tupL, M.v_tupT, M.v_lstL, M.v_lstT, M.tr_bl, M.tr_int, M.tr_lst, M.tr_tup, M.tr_non, M.env0_go, M.g_N, M.g_T, M.g_sC, M.g_sN, M.wipe0, M.wipeS, M.ge_0, M.ge_S, List.set_cons_zero, List.set_cons_succ, List.map_cons, List.map_nil, List.cons_append, List.nil_append, List.length_cons, List.length_nil, Nat.reduceAdd, Nat.reduceSub, List.replicate_succ, List.replicate_zero, Option.bind_some, String.reduceBEq, Int.reduceBEq, Bool.or_self, if_true, if_false, Bool.false_eq_true, Bool.not_true, Bool.not_false, true_and, and_true, decide_true, decide_false, Option.map_some, M.is_non_int, M.is_non_bool, M.is_non_str, M.is_non_tuple, M.is_non_list, M.is_non_dict, M.is_bl_int, M.is_bl_bool, M.is_bl_str, M.is_bl_tuple, M.is_bl_list, M.is_bl_dict, M.is_int_int, M.is_int_bool, M.is_int_str, M.is_int_tuple, M.is_int_list, M.is_int_dict, M.is_str_int, M.is_str_bool, M.is_str_str, M.is_str_tuple, M.is_str_list, M.is_str_dict, M.is_tup_int, M.is_tup_bool, M.is_tup_str, M.is_tup_tuple, M.is_tup_list, M.is_tup_dict, M.is_lst_int, M.is_lst_bool, M.is_lst_str, M.is_lst_tuple, M.is_lst_list, M.is_lst_dict, M.isn_non, M.isn_bl, M.isn_int, M.isn_str, M.isn_tup, M.isn_lst, M.str_beq, M.f_non, M.f_bl, M.f_int, M.f_str, M.fe_str, M.fe_int, M.fe_si, M.fe_is, M.in_tup, M.in_lst, M.nin_tup, M.nin_lst, M.at_0, M.at_1, M.at_2, M.at_3, M.eq_int, M.ne_int, M.eq_bl, M.eq_nil, M.eq_str, M.ne_str, List.all_cons, List.all_nil, List.any_cons, List.any_nil, Bool.and_self, Bool.or_false, Bool.false_or, Bool.or_true, Bool.true_or, Bool.and_true, Bool.true_and, Bool.and_false, Bool.false_and, beq_self_eq_true, bne_self_eq_false, M.ok_comp0, M.ok_compS, M.kCe, M.kCt, M.forD_nil, M.forD_cons, M.kForT_nx, M.kForT_ct, M.kForT_bk, M.kForT_rt, M.cut_1, M.all_1, M.all_2, M.any_1, M.any_2, M.sum_1, M.sum_2, M.all_map, M.any_map, M.sum_map, M.ok_eJs, M.ok_jsN, M.ok_jsC, M.kJs, e1]
  have g2 : (t.set j (.lst ((lk ++ [(p, q)]).map q4)))[j]? = some (.lst ((lk ++ [(p, q)]).map q4)) := by rw [List.getElem?_set_self hj]
  by_cases c : (0 : Int) < n
  · rw [if_pos (by simpa using c)]
    refine ok_rapp (n := j + 1) rfl (sd_get.trans g2) ?_
    simp only [M.ok_ok, M.ok_no, M.oko_some, M.ok_eC, M.ok_eV0, M.ok_eVs, M.ok_e1, M.k1, M.ok_e2, M.k2a, M.k2, M.ok_evs0, M.ok_evs, M.kA, M.ok_eTup, M.ok_eLst, M.ok_eB, M.ok_eCall, M.kTup, M.kLst, M.kB, M.kCall, M.ok_eIf, M.kIfE, M.ok_eAnd, M.kAnd, M.ok_eOr, M.kOr, M.ok_eNot, M.kNotE, M.ok_eChain, M.kCh, M.kCh2, M.ok_tOfE, M.kTo, M.ok_tTru, M.kTru, M.ok_tAnd, M.ok_tOr, M.ok_tNot, M.kTAnd, M.kTOr, M.kTNot, M.ok_tYes, M.ok_pNo, M.ok_pSome, M.kPs, M.ok_eCut, M.kCut, M.kCut1, M.kCut2, M.ok_eDGet, M.kDg, M.kDg2, M.ok_sSeq, M.kSeq_nx, M.kSeq_rt, M.kSeq_bk, M.kSeq_ct, M.ok_sSet, M.kSet, M.ok_sAsg, M.kAsg, M.ok_sPar, M.kPar, M.ok_sDrop, M.kDrop, M.ok_sRet, M.kRet, M.ok_sRetN, M.ok_sNext, M.ok_sBrk, M.ok_sCnt, M.ok_sIf, M.kIf, M.kAug, M.kApp, M.ok_sFor, M.kFor, M.ok_fnM, M.kFn_rt, M.kFn_nx, M.ok_iS, M.kIS_lst, M.kIS_tup, M.ok_iR1, M.kR1, M.ok_iR2, M.kR2, M.ok_eLstRg, M.ok_eTupRg, M.kRg, M.ok_rg1, M.kRg1, M.ok_rg2, M.kRg2, M.kRg2b, M.ok_eM1, M.kM1, M.kM1b, M.ok_eComp, M.kComp, M.kComp1, M.ok_eComp2, M.kCompC, M.kCompB, M.ok_eDisp, M.kDisp, M.ok_sAug1, M.ok_sApp1, M.kApp1, M.kIt_nx, M.kIt_ct, M.kIt_bk, M.kIt_rt, M.v_sub, M.v_addI, M.v_addA, M.v_subA, M.v_lt, M.v_le, M.v_gt, M.v_ge, M.v_int, M.v_lenL, M.v_lenT, M.v_lenZ, M.v_abs, M.v_max, M.v_min, M.v_neg, M.v_ixL, M.v_ixT, M.v_ixZ, M.v_cutL, M.v_cutT, M.v_tupL, M.v_tupT, M.v_lstL, M.v_lstT, M.tr_bl, M.tr_int, M.tr_lst, M.tr_tup, M.tr_non, M.env0_go, M.g_N, M.g_T, M.g_sC, M.g_sN, M.wipe0, M.wipeS, M.ge_0, M.ge_S, List.set_cons_zero, List.set_cons_succ, List.map_cons, List.map_nil, List.cons_append, List.nil_append, List.length_cons, List.length_nil, Nat.reduceAdd, Nat.reduceSub, List.replicate_succ, List.replicate_zero, Option.bind_some, String.reduceBEq, Int.reduceBEq, Bool.or_self, if_true, if_false, Bool.false_eq_true, Bool.not_true, Bool.not_false, true_and, and_true, decide_true, decide_false, Option.map_some, M.is_non_int, M.is_non_bool, M.is_non_str, M.is_non_tuple, M.is_non_list, M.is_non_dict, M.is_bl_int, M.is_bl_bool, M.is_bl_str, M.is_bl_tuple, M.is_bl_list, M.is_bl_dict, M.is_int_int, M.is_int_bool, M.is_int_str, M.is_int_tuple, M.is_int_list, M.is_int_dict, M.is_str_int, M.is_str_bool, M.is_str_str, M.is_str_tuple, M.is_str_list, M.is_str_dict, M.is_tup_int, M.is_tup_bool, M.is_tup_str, M.is_tup_tuple, M.is_tup_list, M.is_tup_dict, M.is_lst_int, M.is_lst_bool, M.is_lst_str, M.is_lst_tuple, M.is_lst_list, M.is_lst_dict, M.isn_non, M.isn_bl, M.isn_int, M.isn_str, M.isn_tup, M.isn_lst, M.str_beq, M.f_non, M.f_bl, M.f_int, M.f_str, M.fe_str, M.fe_int, M.fe_si, M.fe_is, M.in_tup, M.in_lst, M.nin_tup, M.nin_lst, M.at_0, M.at_1, M.at_2, M.at_3, M.eq_int, M.ne_int, M.eq_bl, M.eq_nil, M.eq_str, M.ne_str, List.all_cons, List.all_nil, List.any_cons, List.any_nil, Bool.and_self, Bool.or_false, Bool.false_or, Bool.or_true, Bool.true_or, Bool.and_true, Bool.true_and, Bool.and_false, Bool.false_and, beq_self_eq_true, bne_self_eq_false, M.ok_comp0, M.ok_compS, M.kCe, M.kCt, M.forD_nil, M.forD_cons, M.kForT_nx, M.kForT_ct, M.kForT_bk, M.kForT_rt, M.cut_1, M.all_1, M.all_2, M.any_1, M.any_2, M.sum_1, M.sum_2, M.all_map, M.any_map, M.sum_map, M.ok_eJs, M.ok_jsN, M.ok_jsC, M.kJs, ad]
    refine ⟨_, sd_get.trans g2, by rw [List.length_map, List.length_append, List.length_cons, List.length_nil]; omega, ?_⟩
    rw [m1, sd_set, List.set_set]
    exact ⟨_, _, rfl, by rw [List.length_append, List.length_append]; simp only [List.length_cons, List.length_nil]; omega⟩
  · rw [if_neg (by simpa using c)]
    exact ⟨_, _, rfl, by rw [List.length_append]; simp only [List.length_cons, List.length_nil]; omega⟩
end M
/-! P9: the net that the laws draw. -/
namespace M
open PySem PySem.Spec PyProof.Rows L2
def tl (t : Sto) (tk nm : List D) (hs : List (Str × Int × Int)) (lk : List L4) : Sto := t ++ [.lst tk, .lst nm, .lst (hs.map hD), .lst (lk.map q4)]
section
variable {t : Sto} {tk nm tk' nm' : List D} {hs hs' : List (Str × Int × Int)} {lk lk' : List L4}
theorem tl_g1 : (tl t tk nm hs lk)[t.length + 1]? = some (.lst nm) := by
  unfold tl; rw [List.getElem?_append_right (by omega), show t.length + 1 - t.length = 1 by omega]; rfl
theorem tl_g2 : (tl t tk nm hs lk)[t.length + 2]? = some (.lst (hs.map hD)) := by
  unfold tl; rw [List.getElem?_append_right (by omega), show t.length + 2 - t.length = 2 by omega]; rfl
theorem tl_g3 : (tl t tk nm hs lk)[t.length + 3]? = some (.lst (lk.map q4)) := by
  unfold tl; rw [List.getElem?_append_right (by omega), show t.length + 3 - t.length = 3 by omega]; rfl
theorem tl_s1 : (tl t tk nm hs lk).set (t.length + 1) (.lst nm') = tl t tk nm' hs lk := by
  induction t with
  | nil => rfl
  | cons c t ih => exact congrArg (c :: ·) ih
theorem tl_s2 : (tl t tk nm hs lk).set (t.length + 2) (.lst (hs'.map hD)) = tl t tk nm hs' lk := by
  induction t with
  | nil => rfl
  | cons c t ih => exact congrArg (c :: ·) ih
theorem tl_s3 : (tl t tk nm hs lk).set (t.length + 3) (.lst (lk'.map q4)) = tl t tk nm hs lk' := by
  induction t with
  | nil => rfl
  | cons c t ih => exact congrArg (c :: ·) ih
theorem tl_g0 : (t ++ [Cell.lst tk])[t.length]? = some (.lst tk) := by
  rw [List.getElem?_append_right (by omega), show t.length - t.length = 0 by omega]; rfl
theorem tl_s0 : (t ++ [Cell.lst tk]).set t.length (.lst tk') = t ++ [.lst tk'] := by
  induction t with
  | nil => rfl
  | cons c t ih => exact congrArg (c :: ·) ih
end
/-- the places of the drawing of a net -/
def en (n : Nat) (hd : D) (o4 o5 o6 o7 : Option D) (many ports size : Nat) (nu : List Int) (le : List (Int × Int)) (o15 o16 o17 o18 : Option D) : Env :=
  [some (.ref 0), some (.ref (n + 1)), some (.int size), some hd, o4, o5, o6, o7, some (.int many), some (.int ports), some (.lst (nu.map .int)), some (.lst (le.map p2)), some (.ref (n + 1 + 1)), some (.ref (n + 2 + 1)), some (.ref (n + 3 + 1)), o15, o16, o17, o18]
section
variable {nx pk nm tk jn : Fn1} {xs : List Int} {n a many ports size : Nat} {hd : D} {o4 o5 o6 o7 o15 o16 o17 o18 : Option D} {nu : List Int} {le : List (Int × Int)} {t : Sto}
def Htk (tk : Fn1) (xs : List Int) : Prop := ∀ (a : Nat) (t : Sto) (ds : List D), ds ≠ [] → ds.length ≤ 1000 → ∃ (i : Nat) (h : i < ds.length), tk [.ref 0, .lst ds] (Sd xs a t) = .ok (.tup [ds[i], .lst (ds.take i ++ ds.drop (i + 1))]) (Sd xs (a + 1) t)
def Hnm (nm : Fn1) (xs : List Int) : Prop := ∀ (a j : Nat) (t : Sto) (ds : List D), t[j]? = some (.lst ds) → ds.all flatD = true → ds.length ≤ 1000 → ∃ (a' : Nat) (x : Str), nm [.ref 0, .ref (j + 1)] (Sd xs a t) = .ok (.str x) (Sd xs a' (t.set j (.lst (ds ++ [.str x]))))
def Hjn (jn : Fn1) (xs : List Int) : Prop := ∀ (a j : Nat) (t : Sto) (p q : Int × Int) (lk : List L4), t[j]? = some (.lst (lk.map q4)) → lk.length ≤ 1000 → ∃ (v : D) (a' : Nat) (lk' : List L4), jn [.ref 0, p2 p, p2 q, .ref (j + 1)] (Sd xs a t) = .ok v (Sd xs a' (t.set j (.lst (lk'.map q4)))) ∧ lk'.length ≤ lk.length + 2
/-! the numbers left -/
def ND1 (tk : Fn1) : MS := sFor (iR1 [(e2 oSub (eV 2) (eV 8))]) (gN 4) (sSet 10 (e2 oIx (eCall tk [(eV 0), (eV 10)]) (eC (.int 1))))
theorem erase_map {α β : Type} {f : α → β} {as : List α} {i : Nat} : (as.map f).take i ++ (as.map f).drop (i + 1) = (as.eraseIdx i).map f := by
  rw [← List.map_take, ← List.map_drop, ← List.map_append, ← List.eraseIdx_eq_take_drop_succ]
theorem nd1_ok (h1 : Htk tk xs) (hn : nu.Nodup) (hm : many ≤ size) (hs : size ≤ 100) (hl : nu.length = size) :
    Ok (ND1 tk (en n hd o4 o5 o6 o7 many ports size nu le o15 o16 o17 o18) (Sd xs a t)) fun o s => ∃ (a' : Nat) (p4 : Option D) (nu' : List Int), nu'.Nodup ∧ nu'.length = many ∧ o = .nx (en n hd p4 o5 o6 o7 many ports size nu' le o15 o16 o17 o18) ∧ s = Sd xs a' t := by
  unfold ND1 en
  simp only [M.ok_ok, M.ok_no, M.oko_some, M.ok_eC, M.ok_eV0, M.ok_eVs, M.ok_e1, M.k1, M.ok_e2, M.k2a, M.k2, M.ok_evs0, M.ok_evs, M.kA, M.ok_eTup, M.ok_eLst, M.ok_eB, M.ok_eCall, M.kTup, M.kLst, M.kB, M.kCall, M.ok_eIf, M.kIfE, M.ok_eAnd, M.kAnd, M.ok_eOr, M.kOr, M.ok_eNot, M.kNotE, M.ok_eChain, M.kCh, M.kCh2, M.ok_tOfE, M.kTo, M.ok_tTru, M.kTru, M.ok_tAnd, M.ok_tOr, M.ok_tNot, M.kTAnd, M.kTOr, M.kTNot, M.ok_tYes, M.ok_pNo, M.ok_pSome, M.kPs, M.ok_eCut, M.kCut, M.kCut1, M.kCut2, M.ok_eDGet, M.kDg, M.kDg2, M.ok_sSeq, M.kSeq_nx, M.kSeq_rt, M.kSeq_bk, M.kSeq_ct, M.ok_sSet, M.kSet, M.ok_sAsg, M.kAsg, M.ok_sPar, M.kPar, M.ok_sDrop, M.kDrop, M.ok_sRet, M.kRet, M.ok_sRetN, M.ok_sNext, M.ok_sBrk, M.ok_sCnt, M.ok_sIf, M.kIf, M.kAug, M.kApp, M.ok_sFor, M.kFor, M.ok_fnM, M.kFn_rt, M.kFn_nx, M.ok_iS, M.kIS_lst, M.kIS_tup, M.ok_iR1, M.kR1, M.ok_iR2, M.kR2, M.ok_eLstRg, M.ok_eTupRg, M.kRg, M.ok_rg1, M.kRg1, M.ok_rg2, M.kRg2, M.kRg2b, M.ok_eM1, M.kM1, M.kM1b, M.ok_eComp, M.kComp, M.kComp1, M.ok_eComp2, M.kCompC, M.kCompB, M.ok_eDisp, M.kDisp, M.ok_sAug1, M.ok_sApp1, M.kApp1, M.kIt_nx, M.kIt_ct, M.kIt_bk, M.kIt_rt, M.v_sub, M.v_addI, M.v_addA, M.v_subA, M.v_lt, M.v_le, M.v_gt, M.v_ge, M.v_int, M.v_lenL, M.v_lenT, M.v_lenZ, M.v_abs, M.v_max, M.v_min, M.v_neg, M.v_ixL, M.v_ixT, M.v_ixZ, M.v_cutL, M.v_cutT, M.v_tupL, M.v_tupT, M.v_lstL, M.v_lstT, M.tr_bl, M.tr_int, M.tr_lst, M.tr_tup, M.tr_non, M.env0_go, M.g_N, M.g_T, M.g_sC, M.g_sN, M.wipe0, M.wipeS, M.ge_0, M.ge_S, List.set_cons_zero, List.set_cons_succ, List.map_cons, List.map_nil, List.cons_append, List.nil_append, List.length_cons, List.length_nil, Nat.reduceAdd, Nat.reduceSub, List.replicate_succ, List.replicate_zero, Option.bind_some, String.reduceBEq, Int.reduceBEq, Bool.or_self, if_true, if_false, Bool.false_eq_true, Bool.not_true, Bool.not_false, true_and, and_true, decide_true, decide_false, Option.map_some, M.is_non_int, M.is_non_bool, M.is_non_str, M.is_non_tuple, M.is_non_list, M.is_non_dict, M.is_bl_int, M.is_bl_bool, M.is_bl_str, M.is_bl_tuple, M.is_bl_list, M.is_bl_dict, M.is_int_int, M.is_int_bool, M.is_int_str, M.is_int_tuple, M.is_int_list, M.is_int_dict, M.is_str_int, M.is_str_bool, M.is_str_str, M.is_str_tuple, M.is_str_list, M.is_str_dict, M.is_tup_int, M.is_tup_bool, M.is_tup_str, M.is_tup_tuple, M.is_tup_list, M.is_tup_dict, M.is_lst_int, M.is_lst_bool, M.is_lst_str, M.is_lst_tuple, M.is_lst_list, M.is_lst_dict, M.isn_non, M.isn_bl, M.isn_int, M.isn_str, M.isn_tup, M.isn_lst, M.str_beq, M.f_non, M.f_bl, M.f_int, M.f_str, M.fe_str, M.fe_int, M.fe_si, M.fe_is, M.in_tup, M.in_lst, M.nin_tup, M.nin_lst, M.at_0, M.at_1, M.at_2, M.at_3, M.eq_int, M.ne_int, M.eq_bl, M.eq_nil, M.eq_str, M.ne_str, List.all_cons, List.all_nil, List.any_cons, List.any_nil, Bool.and_self, Bool.or_false, Bool.false_or, Bool.or_true, Bool.true_or, Bool.and_true, Bool.true_and, Bool.and_false, Bool.false_and, beq_self_eq_true, bne_self_eq_false, M.ok_comp0, M.ok_compS, M.kCe, M.kCt, M.forD_nil, M.forD_cons, M.kForT_nx, M.kForT_ct, M.kForT_bk, M.kForT_rt, M.cut_1, M.all_1, M.all_2, M.any_1, M.any_2, M.sum_1, M.sum_2, M.all_map, M.any_map, M.sum_map, M.ok_eJs, M.ok_jsN, M.ok_jsC, M.kJs]
  refine ⟨by omega, ?_⟩
  rw [show ((size : Int) - many).toNat = size - many by omega]
  refine for_rng (fun i ρ s => ∃ (a' : Nat) (p4 : Option D) (nu' : List Int), nu'.Nodup ∧ nu'.length + i = size ∧ ρ = en n hd p4 o5 o6 o7 many ports size nu' le o15 o16 o17 o18 ∧ s = Sd xs a' t) ⟨a, _, nu, hn, hl, rfl, rfl⟩ ?_ ?_
  · rintro i ρ s hi ⟨a', p4, nu', k1, k2, rfl, rfl⟩
    obtain ⟨j, hj, e⟩ := h1 a' t (nu'.map .int) (by intro z; rw [List.map_eq_nil_iff] at z; subst z; simp only [List.length_nil] at k2; omega) (by rw [List.length_map]; omega)
    rw [List.length_map] at hj
    rw [erase_map] at e
    unfold en
    simp only [M.ok_ok, M.ok_no, M.oko_some, M.ok_eC, M.ok_eV0, M.ok_eVs, M.ok_e1, M.k1, M.ok_e2, M.k2a, M.k2, M.ok_evs0, M.ok_evs, M.kA, M.ok_eTup, M.ok_eLst, M.ok_eB, M.ok_eCall, M.kTup, M.kLst, M.kB, M.kCall, M.ok_eIf, M.kIfE, M.ok_eAnd, M.kAnd, M.ok_eOr, M.kOr, M.ok_eNot, M.kNotE, M.ok_eChain, M.kCh, M.kCh2, M.ok_tOfE, M.kTo, M.ok_tTru, M.kTru, M.ok_tAnd, M.ok_tOr, M.ok_tNot, M.kTAnd, M.kTOr, M.kTNot, M.ok_tYes, M.ok_pNo, M.ok_pSome, M.kPs, M.ok_eCut, M.kCut, M.kCut1, M.kCut2, M.ok_eDGet, M.kDg, M.kDg2, M.ok_sSeq, M.kSeq_nx, M.kSeq_rt, M.kSeq_bk, M.kSeq_ct, M.ok_sSet, M.kSet, M.ok_sAsg, M.kAsg, M.ok_sPar, M.kPar, M.ok_sDrop, M.kDrop, M.ok_sRet, M.kRet, M.ok_sRetN, M.ok_sNext, M.ok_sBrk, M.ok_sCnt, M.ok_sIf, M.kIf, M.kAug, M.kApp, M.ok_sFor, M.kFor, M.ok_fnM, M.kFn_rt, M.kFn_nx, M.ok_iS, M.kIS_lst, M.kIS_tup, M.ok_iR1, M.kR1, M.ok_iR2, M.kR2, M.ok_eLstRg, M.ok_eTupRg, M.kRg, M.ok_rg1, M.kRg1, M.ok_rg2, M.kRg2, M.kRg2b, M.ok_eM1, M.kM1, M.kM1b, M.ok_eComp, M.kComp, M.kComp1, M.ok_eComp2, M.kCompC, M.kCompB, M.ok_eDisp, M.kDisp, M.ok_sAug1, M.ok_sApp1, M.kApp1, M.kIt_nx, M.kIt_ct, M.kIt_bk, M.kIt_rt, M.v_sub, M.v_addI, M.v_addA, M.v_subA, M.v_lt, M.v_le, M.v_gt, M.v_ge, M.v_int, M.v_lenL, M.v_lenT, M.v_lenZ, M.v_abs, M.v_max, M.v_min, M.v_neg, M.v_ixL, M.v_ixT, M.v_ixZ, M.v_cutL, M.v_cutT, M.v_tupL, M.v_tupT, M.v_lstL, M.v_lstT, M.tr_bl, M.tr_int, M.tr_lst, M.tr_tup, M.tr_non, M.env0_go, M.g_N, M.g_T, M.g_sC, M.g_sN, M.wipe0, M.wipeS, M.ge_0, M.ge_S, List.set_cons_zero, List.set_cons_succ, List.map_cons, List.map_nil, List.cons_append, List.nil_append, List.length_cons, List.length_nil, Nat.reduceAdd, Nat.reduceSub, List.replicate_succ, List.replicate_zero, Option.bind_some, String.reduceBEq, Int.reduceBEq, Bool.or_self, if_true, if_false, Bool.false_eq_true, Bool.not_true, Bool.not_false, true_and, and_true, decide_true, decide_false, Option.map_some, M.is_non_int, M.is_non_bool, M.is_non_str, M.is_non_tuple, M.is_non_list, M.is_non_dict, M.is_bl_int, M.is_bl_bool, M.is_bl_str, M.is_bl_tuple, M.is_bl_list, M.is_bl_dict, M.is_int_int, M.is_int_bool, M.is_int_str, M.is_int_tuple, M.is_int_list, M.is_int_dict, M.is_str_int, M.is_str_bool, M.is_str_str, M.is_str_tuple, M.is_str_list, M.is_str_dict, M.is_tup_int, M.is_tup_bool, M.is_tup_str, M.is_tup_tuple, M.is_tup_list, M.is_tup_dict, M.is_lst_int, M.is_lst_bool, M.is_lst_str, M.is_lst_tuple, M.is_lst_list, M.is_lst_dict, M.isn_non, M.isn_bl, M.isn_int, M.isn_str, M.isn_tup, M.isn_lst, M.str_beq, M.f_non, M.f_bl, M.f_int, M.f_str, M.fe_str, M.fe_int, M.fe_si, M.fe_is, M.in_tup, M.in_lst, M.nin_tup, M.nin_lst, M.at_0, M.at_1, M.at_2, M.at_3, M.eq_int, M.ne_int, M.eq_bl, M.eq_nil, M.eq_str, M.ne_str, List.all_cons, List.all_nil, List.any_cons, List.any_nil, Bool.and_self, Bool.or_false, Bool.false_or, Bool.or_true, Bool.true_or, Bool.and_true, Bool.true_and, Bool.and_false, Bool.false_and, beq_self_eq_true, bne_self_eq_false, M.ok_comp0, M.ok_compS, M.kCe, M.kCt, M.forD_nil, M.forD_cons, M.kForT_nx, M.kForT_ct, M.kForT_bk, M.kForT_rt, M.cut_1, M.all_1, M.all_2, M.any_1, M.any_2, M.sum_1, M.sum_2, M.all_map, M.any_map, M.sum_map, M.ok_eJs, M.ok_jsN, M.ok_jsC, M.kJs, e]
    refine ⟨_, _, nu'.eraseIdx j, List.Nodup.sublist (List.eraseIdx_sublist _ _) k1, ?_, rfl, rfl⟩
    rw [List.length_eraseIdx_of_lt hj]
    omega
  · rintro ρ s ⟨a', p4, nu', k1, k2, rfl, rfl⟩
    exact ⟨a', p4, nu', k1, by omega, rfl, rfl⟩
/-! all the places -/
def ND2 : MS := sFor (iS (eV 10)) (gN 5) (sSet 11 (e2 oAdd (eV 11) (eComp (iR1 [(eV 9)]) (gN 18) tYesM (eTup [(eV 5), (eV 18)]) [18])))
theorem nd2_ok (hp : ports ≤ 20) (hl : nu.length ≤ 20) :
    Ok (ND2 (en n hd o4 o5 o6 o7 many ports size nu [] o15 o16 o17 o18) (Sd xs a t)) fun o s => ∃ (p5 p18 : Option D) (le : List (Int × Int)), (∀ s ∈ nu, ∀ p, p < ports → (s, (p : Int)) ∈ le) ∧ le.length ≤ 1000 ∧ o = .nx (en n hd o4 p5 o6 o7 many ports size nu le o15 o16 o17 p18) ∧ s = Sd xs a t := by
  have sl : sizeLine = 16777216 := rfl
  unfold ND2 en
  simp only [M.ok_ok, M.ok_no, M.oko_some, M.ok_eC, M.ok_eV0, M.ok_eVs, M.ok_e1, M.k1, M.ok_e2, M.k2a, M.k2, M.ok_evs0, M.ok_evs, M.kA, M.ok_eTup, M.ok_eLst, M.ok_eB, M.ok_eCall, M.kTup, M.kLst, M.kB, M.kCall, M.ok_eIf, M.kIfE, M.ok_eAnd, M.kAnd, M.ok_eOr, M.kOr, M.ok_eNot, M.kNotE, M.ok_eChain, M.kCh, M.kCh2, M.ok_tOfE, M.kTo, M.ok_tTru, M.kTru, M.ok_tAnd, M.ok_tOr, M.ok_tNot, M.kTAnd, M.kTOr, M.kTNot, M.ok_tYes, M.ok_pNo, M.ok_pSome, M.kPs, M.ok_eCut, M.kCut, M.kCut1, M.kCut2, M.ok_eDGet, M.kDg, M.kDg2, M.ok_sSeq, M.kSeq_nx, M.kSeq_rt, M.kSeq_bk, M.kSeq_ct, M.ok_sSet, M.kSet, M.ok_sAsg, M.kAsg, M.ok_sPar, M.kPar, M.ok_sDrop, M.kDrop, M.ok_sRet, M.kRet, M.ok_sRetN, M.ok_sNext, M.ok_sBrk, M.ok_sCnt, M.ok_sIf, M.kIf, M.kAug, M.kApp, M.ok_sFor, M.kFor, M.ok_fnM, M.kFn_rt, M.kFn_nx, M.ok_iS, M.kIS_lst, M.kIS_tup, M.ok_iR1, M.kR1, M.ok_iR2, M.kR2, M.ok_eLstRg, M.ok_eTupRg, M.kRg, M.ok_rg1, M.kRg1, M.ok_rg2, M.kRg2, M.kRg2b, M.ok_eM1, M.kM1, M.kM1b, M.ok_eComp, M.kComp, M.kComp1, M.ok_eComp2, M.kCompC, M.kCompB, M.ok_eDisp, M.kDisp, M.ok_sAug1, M.ok_sApp1, M.kApp1, M.kIt_nx, M.kIt_ct, M.kIt_bk, M.kIt_rt, M.v_sub, M.v_addI, M.v_addA, M.v_subA, M.v_lt, M.v_le, M.v_gt, M.v_ge, M.v_int, M.v_lenL, M.v_lenT, M.v_lenZ, M.v_abs, M.v_max, M.v_min, M.v_neg, M.v_ixL, M.v_ixT, M.v_ixZ, M.v_cutL, M.v_cutT, M.v_tupL, M.v_tupT, M.v_lstL, M.v_lstT, M.tr_bl, M.tr_int, M.tr_lst, M.tr_tup, M.tr_non, M.env0_go, M.g_N, M.g_T, M.g_sC, M.g_sN, M.wipe0, M.wipeS, M.ge_0, M.ge_S, List.set_cons_zero, List.set_cons_succ, List.map_cons, List.map_nil, List.cons_append, List.nil_append, List.length_cons, List.length_nil, Nat.reduceAdd, Nat.reduceSub, List.replicate_succ, List.replicate_zero, Option.bind_some, String.reduceBEq, Int.reduceBEq, Bool.or_self, if_true, if_false, Bool.false_eq_true, Bool.not_true, Bool.not_false, true_and, and_true, decide_true, decide_false, Option.map_some, M.is_non_int, M.is_non_bool, M.is_non_str, M.is_non_tuple, M.is_non_list, M.is_non_dict, M.is_bl_int, M.is_bl_bool, M.is_bl_str, M.is_bl_tuple, M.is_bl_list, M.is_bl_dict, M.is_int_int, M.is_int_bool, M.is_int_str, M.is_int_tuple, M.is_int_list, M.is_int_dict, M.is_str_int, M.is_str_bool, M.is_str_str, M.is_str_tuple, M.is_str_list, M.is_str_dict, M.is_tup_int, M.is_tup_bool, M.is_tup_str, M.is_tup_tuple, M.is_tup_list, M.is_tup_dict, M.is_lst_int, M.is_lst_bool, M.is_lst_str, M.is_lst_tuple, M.is_lst_list, M.is_lst_dict, M.isn_non, M.isn_bl, M.isn_int, M.isn_str, M.isn_tup, M.isn_lst, M.str_beq, M.f_non, M.f_bl, M.f_int, M.f_str, M.fe_str, M.fe_int, M.fe_si, M.fe_is, M.in_tup, M.in_lst, M.nin_tup, M.nin_lst, M.at_0, M.at_1, M.at_2, M.at_3, M.eq_int, M.ne_int, M.eq_bl, M.eq_nil, M.eq_str, M.ne_str, List.all_cons, List.all_nil, List.any_cons, List.any_nil, Bool.and_self, Bool.or_false, Bool.false_or, Bool.or_true, Bool.true_or, Bool.and_true, Bool.true_and, Bool.and_false, Bool.false_and, beq_self_eq_true, bne_self_eq_false, M.ok_comp0, M.ok_compS, M.kCe, M.kCt, M.forD_nil, M.forD_cons, M.kForT_nx, M.kForT_ct, M.kForT_bk, M.kForT_rt, M.cut_1, M.all_1, M.all_2, M.any_1, M.any_2, M.sum_1, M.sum_2, M.all_map, M.any_map, M.sum_map, M.ok_eJs, M.ok_jsN, M.ok_jsC, M.kJs]
  refine for_it (fun ds ρ s => ∃ (done rest : List Int) (p5 p18 : Option D) (le : List (Int × Int)), ds = rest.map .int ∧ nu = done ++ rest ∧ (∀ s ∈ done, ∀ p, p < ports → (s, (p : Int)) ∈ le) ∧ le.length ≤ 20 * done.length ∧ ρ = en n hd o4 p5 o6 o7 many ports size nu le o15 o16 o17 p18 ∧ s = Sd xs a t) ⟨[], nu, _, _, [], rfl, rfl, fun _ h => absurd h List.not_mem_nil, Nat.le_refl _, rfl, rfl⟩ ?_ ?_
  · rintro d ds ρ s ⟨done, rest, p5, p18, le, e1, e2, h2, h3, rfl, rfl⟩
    cases rest with
    | nil => cases e1
    | cons b rest =>
      rw [List.map_cons] at e1
      injection e1 with e1 e3
      subst e1 e3
      have hll : done.length + 1 ≤ 20 := by rw [e2, List.length_append, List.length_cons] at hl; omega
      unfold en
      simp only [M.ok_ok, M.ok_no, M.oko_some, M.ok_eC, M.ok_eV0, M.ok_eVs, M.ok_e1, M.k1, M.ok_e2, M.k2a, M.k2, M.ok_evs0, M.ok_evs, M.kA, M.ok_eTup, M.ok_eLst, M.ok_eB, M.ok_eCall, M.kTup, M.kLst, M.kB, M.kCall, M.ok_eIf, M.kIfE, M.ok_eAnd, M.kAnd, M.ok_eOr, M.kOr, M.ok_eNot, M.kNotE, M.ok_eChain, M.kCh, M.kCh2, M.ok_tOfE, M.kTo, M.ok_tTru, M.kTru, M.ok_tAnd, M.ok_tOr, M.ok_tNot, M.kTAnd, M.kTOr, M.kTNot, M.ok_tYes, M.ok_pNo, M.ok_pSome, M.kPs, M.ok_eCut, M.kCut, M.kCut1, M.kCut2, M.ok_eDGet, M.kDg, M.kDg2, M.ok_sSeq, M.kSeq_nx, M.kSeq_rt, M.kSeq_bk, M.kSeq_ct, M.ok_sSet, M.kSet, M.ok_sAsg, M.kAsg, M.ok_sPar, M.kPar, M.ok_sDrop, M.kDrop, M.ok_sRet, M.kRet, M.ok_sRetN, M.ok_sNext, M.ok_sBrk, M.ok_sCnt, M.ok_sIf, M.kIf, M.kAug, M.kApp, M.ok_sFor, M.kFor, M.ok_fnM, M.kFn_rt, M.kFn_nx, M.ok_iS, M.kIS_lst, M.kIS_tup, M.ok_iR1, M.kR1, M.ok_iR2, M.kR2, M.ok_eLstRg, M.ok_eTupRg, M.kRg, M.ok_rg1, M.kRg1, M.ok_rg2, M.kRg2, M.kRg2b, M.ok_eM1, M.kM1, M.kM1b, M.ok_eComp, M.kComp, M.kComp1, M.ok_eComp2, M.kCompC, M.kCompB, M.ok_eDisp, M.kDisp, M.ok_sAug1, M.ok_sApp1, M.kApp1, M.kIt_nx, M.kIt_ct, M.kIt_bk, M.kIt_rt, M.v_sub, M.v_addI, M.v_addA, M.v_subA, M.v_lt, M.v_le, M.v_gt, M.v_ge, M.v_int, M.v_lenL, M.v_lenT, M.v_lenZ, M.v_abs, M.v_max, M.v_min, M.v_neg, M.v_ixL, M.v_ixT, M.v_ixZ, M.v_cutL, M.v_cutT, M.v_tupL, M.v_tupT, M.v_lstL, M.v_lstT, M.tr_bl, M.tr_int, M.tr_lst, M.tr_tup, M.tr_non, M.env0_go, M.g_N, M.g_T, M.g_sC, M.g_sN, M.wipe0, M.wipeS, M.ge_0, M.ge_S, List.set_cons_zero, List.set_cons_succ, List.map_cons, List.map_nil, List.cons_append, List.nil_append, List.length_cons, List.length_nil, Nat.reduceAdd, Nat.reduceSub, List.replicate_succ, List.replicate_zero, Option.bind_some, String.reduceBEq, Int.reduceBEq, Bool.or_self, if_true, if_false, Bool.false_eq_true, Bool.not_true, Bool.not_false, true_and, and_true, decide_true, decide_false, Option.map_some, M.is_non_int, M.is_non_bool, M.is_non_str, M.is_non_tuple, M.is_non_list, M.is_non_dict, M.is_bl_int, M.is_bl_bool, M.is_bl_str, M.is_bl_tuple, M.is_bl_list, M.is_bl_dict, M.is_int_int, M.is_int_bool, M.is_int_str, M.is_int_tuple, M.is_int_list, M.is_int_dict, M.is_str_int, M.is_str_bool, M.is_str_str, M.is_str_tuple, M.is_str_list, M.is_str_dict, M.is_tup_int, M.is_tup_bool, M.is_tup_str, M.is_tup_tuple, M.is_tup_list, M.is_tup_dict, M.is_lst_int, M.is_lst_bool, M.is_lst_str, M.is_lst_tuple, M.is_lst_list, M.is_lst_dict, M.isn_non, M.isn_bl, M.isn_int, M.isn_str, M.isn_tup, M.isn_lst, M.str_beq, M.f_non, M.f_bl, M.f_int, M.f_str, M.fe_str, M.fe_int, M.fe_si, M.fe_is, M.in_tup, M.in_lst, M.nin_tup, M.nin_lst, M.at_0, M.at_1, M.at_2, M.at_3, M.eq_int, M.ne_int, M.eq_bl, M.eq_nil, M.eq_str, M.ne_str, List.all_cons, List.all_nil, List.any_cons, List.any_nil, Bool.and_self, Bool.or_false, Bool.false_or, Bool.or_true, Bool.true_or, Bool.and_true, Bool.true_and, Bool.and_false, Bool.false_and, beq_self_eq_true, bne_self_eq_false, M.ok_comp0, M.ok_compS, M.kCe, M.kCt, M.forD_nil, M.forD_cons, M.kForT_nx, M.kForT_ct, M.kForT_bk, M.kForT_rt, M.cut_1, M.all_1, M.all_2, M.any_1, M.any_2, M.sum_1, M.sum_2, M.all_map, M.any_map, M.sum_map, M.ok_eJs, M.ok_jsN, M.ok_jsC, M.kJs]
      refine ⟨by omega, ?_⟩
      rw [Int.toNat_natCast]
      refine Ok.of (comp_rg0 (fun i => p2 (b, (i : Int))) fun i hi => ?_) ?_
      · simp only [M.ok_ok, M.ok_no, M.oko_some, M.ok_eC, M.ok_eV0, M.ok_eVs, M.ok_e1, M.k1, M.ok_e2, M.k2a, M.k2, M.ok_evs0, M.ok_evs, M.kA, M.ok_eTup, M.ok_eLst, M.ok_eB, M.ok_eCall, M.kTup, M.kLst, M.kB, M.kCall, M.ok_eIf, M.kIfE, M.ok_eAnd, M.kAnd, M.ok_eOr, M.kOr, M.ok_eNot, M.kNotE, M.ok_eChain, M.kCh, M.kCh2, M.ok_tOfE, M.kTo, M.ok_tTru, M.kTru, M.ok_tAnd, M.ok_tOr, M.ok_tNot, M.kTAnd, M.kTOr, M.kTNot, M.ok_tYes, M.ok_pNo, M.ok_pSome, M.kPs, M.ok_eCut, M.kCut, M.kCut1, M.kCut2, M.ok_eDGet, M.kDg, M.kDg2, M.ok_sSeq, M.kSeq_nx, M.kSeq_rt, M.kSeq_bk, M.kSeq_ct, M.ok_sSet, M.kSet, M.ok_sAsg, M.kAsg, M.ok_sPar, M.kPar, M.ok_sDrop, M.kDrop, M.ok_sRet, M.kRet, M.ok_sRetN, M.ok_sNext, M.ok_sBrk, M.ok_sCnt, M.ok_sIf, M.kIf, M.kAug, M.kApp, M.ok_sFor, M.kFor, M.ok_fnM, M.kFn_rt, M.kFn_nx, M.ok_iS, M.kIS_lst, M.kIS_tup, M.ok_iR1, M.kR1, M.ok_iR2, M.kR2, M.ok_eLstRg, M.ok_eTupRg, M.kRg, M.ok_rg1, M.kRg1, M.ok_rg2, M.kRg2, M.kRg2b, M.ok_eM1, M.kM1, M.kM1b, M.ok_eComp, M.kComp, M.kComp1, M.ok_eComp2, M.kCompC, M.kCompB, M.ok_eDisp, M.kDisp, M.ok_sAug1, M.ok_sApp1, M.kApp1, M.kIt_nx, M.kIt_ct, M.kIt_bk, M.kIt_rt, M.v_sub, M.v_addI, M.v_addA, M.v_subA, M.v_lt, M.v_le, M.v_gt, M.v_ge, M.v_int, M.v_lenL, M.v_lenT, M.v_lenZ, M.v_abs, M.v_max, M.v_min, M.v_neg, M.v_ixL, M.v_ixT, M.v_ixZ, M.v_cutL, M.v_cutT, M.v_tupL, M.v_tupT, M.v_lstL, M.v_lstT, M.tr_bl, M.tr_int, M.tr_lst, M.tr_tup, M.tr_non, M.env0_go, M.g_N, M.g_T, M.g_sC, M.g_sN, M.wipe0, M.wipeS, M.ge_0, M.ge_S, List.set_cons_zero, List.set_cons_succ, List.map_cons, List.map_nil, List.cons_append, List.nil_append, List.length_cons, List.length_nil, Nat.reduceAdd, Nat.reduceSub, List.replicate_succ, List.replicate_zero, Option.bind_some, String.reduceBEq, Int.reduceBEq, Bool.or_self, if_true, if_false, Bool.false_eq_true, Bool.not_true, Bool.not_false, true_and, and_true, decide_true, decide_false, Option.map_some, M.is_non_int, M.is_non_bool, M.is_non_str, M.is_non_tuple, M.is_non_list, M.is_non_dict, M.is_bl_int, M.is_bl_bool, M.is_bl_str, M.is_bl_tuple, M.is_bl_list, M.is_bl_dict, M.is_int_int, M.is_int_bool, M.is_int_str, M.is_int_tuple, M.is_int_list, M.is_int_dict, M.is_str_int, M.is_str_bool, M.is_str_str, M.is_str_tuple, M.is_str_list, M.is_str_dict, M.is_tup_int, M.is_tup_bool, M.is_tup_str, M.is_tup_tuple, M.is_tup_list, M.is_tup_dict, M.is_lst_int, M.is_lst_bool, M.is_lst_str, M.is_lst_tuple, M.is_lst_list, M.is_lst_dict, M.isn_non, M.isn_bl, M.isn_int, M.isn_str, M.isn_tup, M.isn_lst, M.str_beq, M.f_non, M.f_bl, M.f_int, M.f_str, M.fe_str, M.fe_int, M.fe_si, M.fe_is, M.in_tup, M.in_lst, M.nin_tup, M.nin_lst, M.at_0, M.at_1, M.at_2, M.at_3, M.eq_int, M.ne_int, M.eq_bl, M.eq_nil, M.eq_str, M.ne_str, List.all_cons, List.all_nil, List.any_cons, List.any_nil, Bool.and_self, Bool.or_false, Bool.false_or, Bool.or_true, Bool.true_or, Bool.and_true, Bool.true_and, Bool.and_false, Bool.false_and, beq_self_eq_true, bne_self_eq_false, M.ok_comp0, M.ok_compS, M.kCe, M.kCt, M.forD_nil, M.forD_cons, M.kForT_nx, M.kForT_ct, M.kForT_bk, M.kForT_rt, M.cut_1, M.all_1, M.all_2, M.any_1, M.any_2, M.sum_1, M.sum_2, M.all_map, M.any_map, M.sum_map, M.ok_eJs, M.ok_jsN, M.ok_jsC, M.kJs]
        exact rfl
      · have em : le.map p2 ++ (List.range ports).map (fun i : Nat => p2 (b, (i : Int))) = (le ++ (List.range ports).map fun i : Nat => (b, (i : Int))).map p2 := by
          rw [List.map_append, List.map_map]
          rfl
        simp only [M.ok_ok, M.ok_no, M.oko_some, M.ok_eC, M.ok_eV0, M.ok_eVs, M.ok_e1, M.k1, M.ok_e2, M.k2a, M.k2, M.ok_evs0, M.ok_evs, M.kA, M.ok_eTup, M.ok_eLst, M.ok_eB, M.ok_eCall, M.kTup, M.kLst, M.kB, M.kCall, M.ok_eIf, M.kIfE, M.ok_eAnd, M.kAnd, M.ok_eOr, M.kOr, M.ok_eNot, M.kNotE, M.ok_eChain, M.kCh, M.kCh2, M.ok_tOfE, M.kTo, M.ok_tTru, M.kTru, M.ok_tAnd, M.ok_tOr, M.ok_tNot, M.kTAnd, M.kTOr, M.kTNot, M.ok_tYes, M.ok_pNo, M.ok_pSome, M.kPs, M.ok_eCut, M.kCut, M.kCut1, M.kCut2, M.ok_eDGet, M.kDg, M.kDg2, M.ok_sSeq, M.kSeq_nx, M.kSeq_rt, M.kSeq_bk, M.kSeq_ct, M.ok_sSet, M.kSet, M.ok_sAsg, M.kAsg, M.ok_sPar, M.kPar, M.ok_sDrop, M.kDrop, M.ok_sRet, M.kRet, M.ok_sRetN, M.ok_sNext, M.ok_sBrk, M.ok_sCnt, M.ok_sIf, M.kIf, M.kAug, M.kApp, M.ok_sFor, M.kFor, M.ok_fnM, M.kFn_rt, M.kFn_nx, M.ok_iS, M.kIS_lst, M.kIS_tup, M.ok_iR1, M.kR1, M.ok_iR2, M.kR2, M.ok_eLstRg, M.ok_eTupRg, M.kRg, M.ok_rg1, M.kRg1, M.ok_rg2, M.kRg2, M.kRg2b, M.ok_eM1, M.kM1, M.kM1b, M.ok_eComp, M.kComp, M.kComp1, M.ok_eComp2, M.kCompC, M.kCompB, M.ok_eDisp, M.kDisp, M.ok_sAug1, M.ok_sApp1, M.kApp1, M.kIt_nx, M.kIt_ct, M.kIt_bk, M.kIt_rt, M.v_sub, M.v_addI, M.v_addA, M.v_subA, M.v_lt, M.v_le, M.v_gt, M.v_ge, M.v_int, M.v_lenL, M.v_lenT, M.v_lenZ, M.v_abs, M.v_max, M.v_min, M.v_neg, M.v_ixL, M.v_ixT, M.v_ixZ, M.v_cutL, M.v_cutT, M.v_tupL, M.v_tupT, M.v_lstL, M.v_lstT, M.tr_bl, M.tr_int, M.tr_lst, M.tr_tup, M.tr_non, M.env0_go, M.g_N, M.g_T, M.g_sC, M.g_sN, M.wipe0, M.wipeS, M.ge_0, M.ge_S, List.set_cons_zero, List.set_cons_succ, List.map_cons, List.map_nil, List.cons_append, List.nil_append, List.length_cons, List.length_nil, Nat.reduceAdd, Nat.reduceSub, List.replicate_succ, List.replicate_zero, Option.bind_some, String.reduceBEq, Int.reduceBEq, Bool.or_self, if_true, if_false, Bool.false_eq_true, Bool.not_true, Bool.not_false, true_and, and_true, decide_true, decide_false, Option.map_some, M.is_non_int, M.is_non_bool, M.is_non_str, M.is_non_tuple, M.is_non_list, M.is_non_dict, M.is_bl_int, M.is_bl_bool, M.is_bl_str, M.is_bl_tuple, M.is_bl_list, M.is_bl_dict, M.is_int_int, M.is_int_bool, M.is_int_str, M.is_int_tuple, M.is_int_list, M.is_int_dict, M.is_str_int, M.is_str_bool, M.is_str_str, M.is_str_tuple, M.is_str_list, M.is_str_dict, M.is_tup_int, M.is_tup_bool, M.is_tup_str, M.is_tup_tuple, M.is_tup_list, M.is_tup_dict, M.is_lst_int, M.is_lst_bool, M.is_lst_str, M.is_lst_tuple, M.is_lst_list, M.is_lst_dict, M.isn_non, M.isn_bl, M.isn_int, M.isn_str, M.isn_tup, M.isn_lst, M.str_beq, M.f_non, M.f_bl, M.f_int, M.f_str, M.fe_str, M.fe_int, M.fe_si, M.fe_is, M.in_tup, M.in_lst, M.nin_tup, M.nin_lst, M.at_0, M.at_1, M.at_2, M.at_3, M.eq_int, M.ne_int, M.eq_bl, M.eq_nil, M.eq_str, M.ne_str, List.all_cons, List.all_nil, List.any_cons, List.any_nil, Bool.and_self, Bool.or_false, Bool.false_or, Bool.or_true, Bool.true_or, Bool.and_true, Bool.true_and, Bool.and_false, Bool.false_and, beq_self_eq_true, bne_self_eq_false, M.ok_comp0, M.ok_compS, M.kCe, M.kCt, M.forD_nil, M.forD_cons, M.kForT_nx, M.kForT_ct, M.kForT_bk, M.kForT_rt, M.cut_1, M.all_1, M.all_2, M.any_1, M.any_2, M.sum_1, M.sum_2, M.all_map, M.any_map, M.sum_map, M.ok_eJs, M.ok_jsN, M.ok_jsC, M.kJs, v_addL (show (le.map p2).length + ((List.range ports).map fun i : Nat => p2 (b, (i : Int))).length ≤ sizeLine by rw [List.length_map, List.length_map, List.length_range]; omega), em]
        refine ⟨done ++ [b], rest, _, _, _, rfl, by rw [e2, List.append_assoc]; rfl, ?_, ?_, rfl⟩
        · intro s hs p hp
          rcases List.mem_append.mp hs with hs | hs
          · exact List.mem_append_left _ (h2 s hs p hp)
          · rw [List.mem_singleton.mp hs]
            exact List.mem_append_right _ (List.mem_map.mpr ⟨p, List.mem_range.mpr hp, rfl⟩)
        · rw [List.length_append, List.length_map, List.length_range, List.length_append, List.length_cons, List.length_nil]
          omega
  · rintro ρ s ⟨done, rest, p5, p18, le, e1, e2, h2, h3, rfl, rfl⟩
    cases rest with
    | cons => cases e1
    | nil =>
      rw [List.append_nil] at e2
      subst e2
      exact ⟨_, _, le, h2, by omega, rfl, rfl⟩

variable {tn nn : List D} {hs : List (Str × Int × Int)} {lk : List L4}
/-! links from each to the next -/
def ND3 (nx pk jn : Fn1) : MS := sFor (iR2 [(eC (.int 1)), (eV 8)]) (gN 6) (sIf (tOfE (e2 oGt (eCall nx [(eV 0), (eC (.int 7))]) (eC (.int 0)))) (sSeq (sSet 15 (eCall pk [(eV 0), (eComp (iS (eV 11)) (gN 17) (tOfE (e2 oEq (e2 oIx (eV 17) (eC (.int 0))) (e2 oIx (eV 10) (e2 oSub (eV 6) (eC (.int 1)))))) (eV 17) [17])]))
    (sSeq (sSet 16 (eCall pk [(eV 0), (eComp (iS (eV 11)) (gN 17) (tOfE (e2 oEq (e2 oIx (eV 17) (eC (.int 0))) (e2 oIx (eV 10) (eV 6)))) (eV 17) [17])]))
    (sSeq (sSet 11 (eComp (iS (eV 11)) (gN 17) (tAndM (tOfE (e2 oNe (eV 17) (eV 15))) (tOfE (e2 oNe (eV 17) (eV 16)))) (eV 17) [17]))
    (sDrop (eCall jn [(eV 0), (eV 15), (eV 16), (eV 14)]))))) sNext)
theorem ne_p2 {p q : Int × Int} : oNe (p2 p) (p2 q) = some (.bl (!decide (p = q))) := Enc.ne E2 (by decide) p q
def at1 (i : Int) (d : D) : Bool := match d with
  | .tup [.int a, _] => a == i
  | _ => false
theorem filt1 {i : Int} {le : List (Int × Int)} : ((le.map p2).filter (at1 i)).map id = (le.filter fun p => p.1 == i).map p2 := by
  rw [List.map_id, List.filter_map]; rfl
def not2 (p q : Int × Int) (d : D) : Bool := match d with
  | .tup [.int a, .int b] => !decide ((a, b) = p) && !decide ((a, b) = q)
  | _ => false
theorem filt2 {p q : Int × Int} {le : List (Int × Int)} : ((le.map p2).filter (not2 p q)).map id = (le.filter fun x => !decide (x = p) && !decide (x = q)).map p2 := by
  rw [List.map_id, List.filter_map]; rfl
/-- what is left for the rest of the walk -/
structure LF (nu : List Int) (ports : Nat) (le : List (Int × Int)) (k : Nat) : Prop where
  one : ∃ (h : k < nu.length) (p : Int), (nu[k], p) ∈ le
  more : ∀ (j : Nat) (h : j < nu.length), k < j → ∀ p, p < ports → (nu[j], (p : Int)) ∈ le
theorem nodup_ne {nu : List Int} (h : nu.Nodup) {i j : Nat} (hi : i < nu.length) (hj : j < nu.length) (ne : i ≠ j) : nu[i] ≠ nu[j] := by
  have hp := List.pairwise_iff_getElem.mp h
  rcases Nat.lt_or_ge i j with l | l
  · exact hp i j hi hj l
  · exact fun e => hp j i hj hi (by omega) e.symm
theorem LF.step {k : Nat} (hn : nu.Nodup) (hp : 2 ≤ ports) (h : LF nu ports le k) (hk : k + 1 < nu.length) (one other : Int × Int) (e1 : one.1 = nu[k]) (e2 : other.1 = nu[k + 1]) :
    LF nu ports (le.filter fun x => !decide (x = one) && !decide (x = other)) (k + 1) where
  one := by
    have ne1 : nu[k + 1] ≠ nu[k] := nodup_ne hn hk (by omega) (by omega)
    have mk : ∀ p, p < ports → other.2 ≠ (p : Int) → (nu[k + 1], (p : Int)) ∈ (le.filter fun x => !decide (x = one) && !decide (x = other)) := fun p hp h2 => by
      refine List.mem_filter.mpr ⟨h.more (k + 1) hk (by omega) p hp, ?_⟩
      have a1 : ¬ (nu[k + 1], (p : Int)) = one := fun e => ne1 (by rw [← e1, ← e])
      have a2 : ¬ (nu[k + 1], (p : Int)) = other := fun e => h2 (by rw [← e])
      simp [a1, a2]
    by_cases c : other.2 = (0 : Nat)
    · exact ⟨hk, _, mk 1 (by omega) (by omega)⟩
    · exact ⟨hk, _, mk 0 (by omega) c⟩
  more := fun j hj h2 p hp => by
    refine List.mem_filter.mpr ⟨h.more j hj (by omega) p hp, ?_⟩
    have n1 : nu[j] ≠ nu[k] := nodup_ne hn hj (by omega) (by omega)
    have n2 : nu[j] ≠ nu[k + 1] := nodup_ne hn hj hk (by omega)
    have a1 : ¬ (nu[j], (p : Int)) = one := fun e => n1 (by rw [← e1, ← e])
    have a2 : ¬ (nu[j], (p : Int)) = other := fun e => n2 (by rw [← e2, ← e])
    simp [a1, a2]
theorem LF.skip {k : Nat} (hp : 2 ≤ ports) (h : LF nu ports le k) (hk : k + 1 < nu.length) : LF nu ports le (k + 1) where
  one := ⟨hk, ((0 : Nat) : Int), h.more (k + 1) hk (by omega) 0 (by omega)⟩
  more := fun j hj h2 p hp => h.more j hj (by omega) p hp
theorem nd3_ok (h1 : Hnx nx xs) (h2 : Hpk pk xs) (h3 : Hjn jn xs) (hn : nu.Nodup) (hp : 2 ≤ ports) (hl : nu.length = many) (hm : 1 ≤ many) (hm2 : many ≤ 100) (hle : le.length ≤ 1000) (h0 : LF nu ports le 0) :
    Ok (ND3 nx pk jn (en t.length hd o4 o5 o6 o7 many ports size nu le o15 o16 o17 o18) (Sd xs a (tl t tn nn hs []))) fun o s => ∃ (a' : Nat) (p6 p15 p16 p17 : Option D) (le' : List (Int × Int)) (lk' : List L4), le'.length ≤ 1000 ∧ lk'.length ≤ 200 ∧ o = .nx (en t.length hd o4 o5 p6 o7 many ports size nu le' p15 p16 p17 o18) ∧ s = Sd xs a' (tl t tn nn hs lk') := by
  have sl : sizeLine = 16777216 := rfl
  unfold ND3 en
  simp only [M.ok_ok, M.ok_no, M.oko_some, M.ok_eC, M.ok_eV0, M.ok_eVs, M.ok_e1, M.k1, M.ok_e2, M.k2a, M.k2, M.ok_evs0, M.ok_evs, M.kA, M.ok_eTup, M.ok_eLst, M.ok_eB, M.ok_eCall, M.kTup, M.kLst, M.kB, M.kCall, M.ok_eIf, M.kIfE, M.ok_eAnd, M.kAnd, M.ok_eOr, M.kOr, M.ok_eNot, M.kNotE, M.ok_eChain, M.kCh, M.kCh2, M.ok_tOfE, M.kTo, M.ok_tTru, M.kTru, M.ok_tAnd, M.ok_tOr, M.ok_tNot, M.kTAnd, M.kTOr, M.kTNot, M.ok_tYes, M.ok_pNo, M.ok_pSome, M.kPs, M.ok_eCut, M.kCut, M.kCut1, M.kCut2, M.ok_eDGet, M.kDg, M.kDg2, M.ok_sSeq, M.kSeq_nx, M.kSeq_rt, M.kSeq_bk, M.kSeq_ct, M.ok_sSet, M.kSet, M.ok_sAsg, M.kAsg, M.ok_sPar, M.kPar, M.ok_sDrop, M.kDrop, M.ok_sRet, M.kRet, M.ok_sRetN, M.ok_sNext, M.ok_sBrk, M.ok_sCnt, M.ok_sIf, M.kIf, M.kAug, M.kApp, M.ok_sFor, M.kFor, M.ok_fnM, M.kFn_rt, M.kFn_nx, M.ok_iS, M.kIS_lst, M.kIS_tup, M.ok_iR1, M.kR1, M.ok_iR2, M.kR2, M.ok_eLstRg, M.ok_eTupRg, M.kRg, M.ok_rg1, M.kRg1, M.ok_rg2, M.kRg2, M.kRg2b, M.ok_eM1, M.kM1, M.kM1b, M.ok_eComp, M.kComp, M.kComp1, M.ok_eComp2, M.kCompC, M.kCompB, M.ok_eDisp, M.kDisp, M.ok_sAug1, M.ok_sApp1, M.kApp1, M.kIt_nx, M.kIt_ct, M.kIt_bk, M.kIt_rt, M.v_sub, M.v_addI, M.v_addA, M.v_subA, M.v_lt, M.v_le, M.v_gt, M.v_ge, M.v_int, M.v_lenL, M.v_lenT, M.v_lenZ, M.v_abs, M.v_max, M.v_min, M.v_neg, M.v_ixL, M.v_ixT, M.v_ixZ, M.v_cutL, M.v_cutT, M.v_tupL, M.v_tupT, M.v_lstL, M.v_lstT, M.tr_bl, M.tr_int, M.tr_lst, M.tr_tup, M.tr_non, M.env0_go, M.g_N, M.g_T, M.g_sC, M.g_sN, M.wipe0, M.wipeS, M.ge_0, M.ge_S, List.set_cons_zero, List.set_cons_succ, List.map_cons, List.map_nil, List.cons_append, List.nil_append, List.length_cons, List.length_nil, Nat.reduceAdd, Nat.reduceSub, List.replicate_succ, List.replicate_zero, Option.bind_some, String.reduceBEq, Int.reduceBEq, Bool.or_self, if_true, if_false, Bool.false_eq_true, Bool.not_true, Bool.not_false, true_and, and_true, decide_true, decide_false, Option.map_some, M.is_non_int, M.is_non_bool, M.is_non_str, M.is_non_tuple, M.is_non_list, M.is_non_dict, M.is_bl_int, M.is_bl_bool, M.is_bl_str, M.is_bl_tuple, M.is_bl_list, M.is_bl_dict, M.is_int_int, M.is_int_bool, M.is_int_str, M.is_int_tuple, M.is_int_list, M.is_int_dict, M.is_str_int, M.is_str_bool, M.is_str_str, M.is_str_tuple, M.is_str_list, M.is_str_dict, M.is_tup_int, M.is_tup_bool, M.is_tup_str, M.is_tup_tuple, M.is_tup_list, M.is_tup_dict, M.is_lst_int, M.is_lst_bool, M.is_lst_str, M.is_lst_tuple, M.is_lst_list, M.is_lst_dict, M.isn_non, M.isn_bl, M.isn_int, M.isn_str, M.isn_tup, M.isn_lst, M.str_beq, M.f_non, M.f_bl, M.f_int, M.f_str, M.fe_str, M.fe_int, M.fe_si, M.fe_is, M.in_tup, M.in_lst, M.nin_tup, M.nin_lst, M.at_0, M.at_1, M.at_2, M.at_3, M.eq_int, M.ne_int, M.eq_bl, M.eq_nil, M.eq_str, M.ne_str, List.all_cons, List.all_nil, List.any_cons, List.any_nil, Bool.and_self, Bool.or_false, Bool.false_or, Bool.or_true, Bool.true_or, Bool.and_true, Bool.true_and, Bool.and_false, Bool.false_and, beq_self_eq_true, bne_self_eq_false, M.ok_comp0, M.ok_compS, M.kCe, M.kCt, M.forD_nil, M.forD_cons, M.kForT_nx, M.kForT_ct, M.kForT_bk, M.kForT_rt, M.cut_1, M.all_1, M.all_2, M.any_1, M.any_2, M.sum_1, M.sum_2, M.all_map, M.any_map, M.sum_map, M.ok_eJs, M.ok_jsN, M.ok_jsC, M.kJs]
  refine ⟨by omega, ?_⟩
  rw [show ((many : Int) - 1).toNat = many - 1 by omega]
  refine for_rng (fun i ρ s => ∃ (a' : Nat) (p6 p15 p16 p17 : Option D) (le' : List (Int × Int)) (lk' : List L4), le'.length ≤ 1000 ∧ lk'.length ≤ 2 * i ∧ LF nu ports le' i ∧ ρ = en t.length hd o4 o5 p6 o7 many ports size nu le' p15 p16 p17 o18 ∧ s = Sd xs a' (tl t tn nn hs lk')) ⟨a, _, _, _, _, le, [], hle, Nat.le_refl _, h0, rfl, rfl⟩ ?_ ?_
  · rintro i ρ s hi ⟨a', p6, p15, p16, p17, le', lk', k1, k2, k3, rfl, rfl⟩
    have hi1 : i + 1 < nu.length := by omega
    have e0 : (1 : Int) + (i : Nat) = ((i + 1 : Nat) : Int) := by omega
    have e1 : ((i + 1 : Nat) : Int) - 1 = (i : Nat) := by omega
    obtain ⟨n1, q1, f1⟩ := nx_nat h1 a' (tl t tn nn hs lk') 7 (by decide)
    have f1 : nx [.ref 0, .int 7] (Sd xs a' (tl t tn nn hs lk')) = .ok (.int n1) (Sd xs (a' + 1) (tl t tn nn hs lk')) := f1
    unfold en
    by_cases c : (0 : Int) < n1
    · obtain ⟨hk0, p0, m0⟩ := k3.one
      have a0 : atI (nu.map D.int) ((i : Nat) : Int) = some (.int nu[i]) := by rw [atI_nat (show i < (nu.map D.int).length by rw [List.length_map]; omega), List.getElem_map]
      have a1 : atI (nu.map D.int) ((i + 1 : Nat) : Int) = some (.int nu[i + 1]) := by rw [atI_nat (show i + 1 < (nu.map D.int).length by rw [List.length_map]; omega), List.getElem_map]
      simp only [M.ok_ok, M.ok_no, M.oko_some, M.ok_eC, M.ok_eV0, M.ok_eVs, M.ok_e1, M.k1, M.ok_e2, M.k2a, M.k2, M.ok_evs0, M.ok_evs, M.kA, M.ok_eTup, M.ok_eLst, M.ok_eB, M.ok_eCall, M.kTup, M.kLst, M.kB, M.kCall, M.ok_eIf, M.kIfE, M.ok_eAnd, M.kAnd, M.ok_eOr, M.kOr, M.ok_eNot, M.kNotE, M.ok_eChain, M.kCh, M.kCh2, M.ok_tOfE, M.kTo, M.ok_tTru, M.kTru, M.ok_tAnd, M.ok_tOr, M.ok_tNot, M.kTAnd, M.kTOr, M.kTNot, M.ok_tYes, M.ok_pNo, M.ok_pSome, M.kPs, M.ok_eCut, M.kCut, M.kCut1, M.kCut2, M.ok_eDGet, M.kDg, M.kDg2, M.ok_sSeq, M.kSeq_nx, M.kSeq_rt, M.kSeq_bk, M.kSeq_ct, M.ok_sSet, M.kSet, M.ok_sAsg, M.kAsg, M.ok_sPar, M.kPar, M.ok_sDrop, M.kDrop, M.ok_sRet, M.kRet, M.ok_sRetN, M.ok_sNext, M.ok_sBrk, M.ok_sCnt, M.ok_sIf, M.kIf, M.kAug, M.kApp, M.ok_sFor, M.kFor, M.ok_fnM, M.kFn_rt, M.kFn_nx, M.ok_iS, M.kIS_lst, M.kIS_tup, M.ok_iR1, M.kR1, M.ok_iR2, M.kR2, M.ok_eLstRg, M.ok_eTupRg, M.kRg, M.ok_rg1, M.kRg1, M.ok_rg2, M.kRg2, M.kRg2b, M.ok_eM1, M.kM1, M.kM1b, M.ok_eComp, M.kComp, M.kComp1, M.ok_eComp2, M.kCompC, M.kCompB, M.ok_eDisp, M.kDisp, M.ok_sAug1, M.ok_sApp1, M.kApp1, M.kIt_nx, M.kIt_ct, M.kIt_bk, M.kIt_rt, M.v_sub, M.v_addI, M.v_addA, M.v_subA, M.v_lt, M.v_le, M.v_gt, M.v_ge, M.v_int, M.v_lenL, M.v_lenT, M.v_lenZ, M.v_abs, M.v_max, M.v_min, M.v_neg, M.v_ixL, M.v_ixT, M.v_ixZ, M.v_cutL, M.v_cutT, M.v_tupL, M.v_tupT, M.v_lstL, M.v_lstT, M.tr_bl, M.tr_int, M.tr_lst, M.tr_tup, M.tr_non, M.env0_go, M.g_N, M.g_T, M.g_sC, M.g_sN, M.wipe0, M.wipeS, M.ge_0, M.ge_S, List.set_cons_zero, List.set_cons_succ, List.map_cons, List.map_nil, List.cons_append, List.nil_append, List.length_cons, List.length_nil, Nat.reduceAdd, Nat.reduceSub, List.replicate_succ, List.replicate_zero, Option.bind_some, String.reduceBEq, Int.reduceBEq, Bool.or_self, if_true, if_false, Bool.false_eq_true, Bool.not_true, Bool.not_false, true_and, and_true, decide_true, decide_false, Option.map_some, M.is_non_int, M.is_non_bool, M.is_non_str, M.is_non_tuple, M.is_non_list, M.is_non_dict, M.is_bl_int, M.is_bl_bool, M.is_bl_str, M.is_bl_tuple, M.is_bl_list, M.is_bl_dict, M.is_int_int, M.is_int_bool, M.is_int_str, M.is_int_tuple, M.is_int_list, M.is_int_dict, M.is_str_int, M.is_str_bool, M.is_str_str, M.is_str_tuple, M.is_str_list, M.is_str_dict, M.is_tup_int, M.is_tup_bool, M.is_tup_str, M.is_tup_tuple, M.is_tup_list, M.is_tup_dict, M.is_lst_int, M.is_lst_bool, M.is_lst_str, M.is_lst_tuple, M.is_lst_list, M.is_lst_dict, M.isn_non, M.isn_bl, M.isn_int, M.isn_str, M.isn_tup, M.isn_lst, M.str_beq, M.f_non, M.f_bl, M.f_int, M.f_str, M.fe_str, M.fe_int, M.fe_si, M.fe_is, M.in_tup, M.in_lst, M.nin_tup, M.nin_lst, M.at_0, M.at_1, M.at_2, M.at_3, M.eq_int, M.ne_int, M.eq_bl, M.eq_nil, M.eq_str, M.ne_str, List.all_cons, List.all_nil, List.any_cons, List.any_nil, Bool.and_self, Bool.or_false, Bool.false_or, Bool.or_true, Bool.true_or, Bool.and_true, Bool.true_and, Bool.and_false, Bool.false_and, beq_self_eq_true, bne_self_eq_false, M.ok_comp0, M.ok_compS, M.kCe, M.kCt, M.forD_nil, M.forD_cons, M.kForT_nx, M.kForT_ct, M.kForT_bk, M.kForT_rt, M.cut_1, M.all_1, M.all_2, M.any_1, M.any_2, M.sum_1, M.sum_2, M.all_map, M.any_map, M.sum_map, M.ok_eJs, M.ok_jsN, M.ok_jsC, M.kJs, e0, f1, c]
      refine Ok.of (comp_f (at1 nu[i]) id fun d hd => ?_) ?_
      · obtain ⟨q, _, rfl⟩ := List.mem_map.mp hd
        unfold p2 at1
        simp only [M.ok_ok, M.ok_no, M.oko_some, M.ok_eC, M.ok_eV0, M.ok_eVs, M.ok_e1, M.k1, M.ok_e2, M.k2a, M.k2, M.ok_evs0, M.ok_evs, M.kA, M.ok_eTup, M.ok_eLst, M.ok_eB, M.ok_eCall, M.kTup, M.kLst, M.kB, M.kCall, M.ok_eIf, M.kIfE, M.ok_eAnd, M.kAnd, M.ok_eOr, M.kOr, M.ok_eNot, M.kNotE, M.ok_eChain, M.kCh, M.kCh2, M.ok_tOfE, M.kTo, M.ok_tTru, M.kTru, M.ok_tAnd, M.ok_tOr, M.ok_tNot, M.kTAnd, M.kTOr, M.kTNot, M.ok_tYes, M.ok_pNo, M.ok_pSome, M.kPs, M.ok_eCut, M.kCut, M.kCut1, M.kCut2, M.ok_eDGet, M.kDg, M.kDg2, M.ok_sSeq, M.kSeq_nx, M.kSeq_rt, M.kSeq_bk, M.kSeq_ct, M.ok_sSet, M.kSet, M.ok_sAsg, M.kAsg, M.ok_sPar, M.kPar, M.ok_sDrop, M.kDrop, M.ok_sRet, M.kRet, M.ok_sRetN, M.ok_sNext, M.ok_sBrk, M.ok_sCnt, M.ok_sIf, M.kIf, M.kAug, M.kApp, M.ok_sFor, M.kFor, M.ok_fnM, M.kFn_rt, M.kFn_nx, M.ok_iS, M.kIS_lst, M.kIS_tup, M.ok_iR1, M.kR1, M.ok_iR2, M.kR2, M.ok_eLstRg, M.ok_eTupRg, M.kRg, M.ok_rg1, M.kRg1, M.ok_rg2, M.kRg2, M.kRg2b, M.ok_eM1, M.kM1, M.kM1b, M.ok_eComp, M.kComp, M.kComp1, M.ok_eComp2, M.kCompC, M.kCompB, M.ok_eDisp, M.kDisp, M.ok_sAug1, M.ok_sApp1, M.kApp1, M.kIt_nx, M.kIt_ct, M.kIt_bk, M.kIt_rt, M.v_sub, M.v_addI, M.v_addA, M.v_subA, M.v_lt, M.v_le, M.v_gt, M.v_ge, M.v_int, M.v_lenL, M.v_lenT, M.v_lenZ, M.v_abs, M.v_max, M.v_min, M.v_neg, M.v_ixL, M.v_ixT, M.v_ixZ, M.v_cutL, M.v_cutT, M.v_tupL, M.v_tupT, M.v_lstL, M.v_lstT, M.tr_bl, M.tr_int, M.tr_lst, M.tr_tup, M.tr_non, M.env0_go, M.g_N, M.g_T, M.g_sC, M.g_sN, M.wipe0, M.wipeS, M.ge_0, M.ge_S, List.set_cons_zero, List.set_cons_succ, List.map_cons, List.map_nil, List.cons_append, List.nil_append, List.length_cons, List.length_nil, Nat.reduceAdd, Nat.reduceSub, List.replicate_succ, List.replicate_zero, Option.bind_some, String.reduceBEq, Int.reduceBEq, Bool.or_self, if_true, if_false, Bool.false_eq_true, Bool.not_true, Bool.not_false, true_and, and_true, decide_true, decide_false, Option.map_some, M.is_non_int, M.is_non_bool, M.is_non_str, M.is_non_tuple, M.is_non_list, M.is_non_dict, M.is_bl_int, M.is_bl_bool, M.is_bl_str, M.is_bl_tuple, M.is_bl_list, M.is_bl_dict, M.is_int_int, M.is_int_bool, M.is_int_str, M.is_int_tuple, M.is_int_list, M.is_int_dict, M.is_str_int, M.is_str_bool, M.is_str_str, M.is_str_tuple, M.is_str_list, M.is_str_dict, M.is_tup_int, M.is_tup_bool, M.is_tup_str, M.is_tup_tuple, M.is_tup_list, M.is_tup_dict, M.is_lst_int, M.is_lst_bool, M.is_lst_str, M.is_lst_tuple, M.is_lst_list, M.is_lst_dict, M.isn_non, M.isn_bl, M.isn_int, M.isn_str, M.isn_tup, M.isn_lst, M.str_beq, M.f_non, M.f_bl, M.f_int, M.f_str, M.fe_str, M.fe_int, M.fe_si, M.fe_is, M.in_tup, M.in_lst, M.nin_tup, M.nin_lst, M.at_0, M.at_1, M.at_2, M.at_3, M.eq_int, M.ne_int, M.eq_bl, M.eq_nil, M.eq_str, M.ne_str, List.all_cons, List.all_nil, List.any_cons, List.any_nil, Bool.and_self, Bool.or_false, Bool.false_or, Bool.or_true, Bool.true_or, Bool.and_true, Bool.true_and, Bool.and_false, Bool.false_and, beq_self_eq_true, bne_self_eq_false, M.ok_comp0, M.ok_compS, M.kCe, M.kCt, M.forD_nil, M.forD_cons, M.kForT_nx, M.kForT_ct, M.kForT_bk, M.kForT_rt, M.cut_1, M.all_1, M.all_2, M.any_1, M.any_2, M.sum_1, M.sum_2, M.all_map, M.any_map, M.sum_map, M.ok_eJs, M.ok_jsN, M.ok_jsC, M.kJs, e1, a0]
        simp
      rw [filt1]
      obtain ⟨d, hd1, f2⟩ := pk_mem h2 (a' + 1) (tl t tn nn hs lk') ((le'.filter fun p => p.1 == nu[i]).map p2) (List.ne_nil_of_mem (List.mem_map.mpr ⟨_, List.mem_filter.mpr ⟨m0, beq_self_eq_true _⟩, rfl⟩))
      obtain ⟨one, ho, rfl⟩ := List.mem_map.mp hd1
      obtain ⟨ho1, ho2⟩ := List.mem_filter.mp ho
      simp only [M.ok_ok, M.ok_no, M.oko_some, M.ok_eC, M.ok_eV0, M.ok_eVs, M.ok_e1, M.k1, M.ok_e2, M.k2a, M.k2, M.ok_evs0, M.ok_evs, M.kA, M.ok_eTup, M.ok_eLst, M.ok_eB, M.ok_eCall, M.kTup, M.kLst, M.kB, M.kCall, M.ok_eIf, M.kIfE, M.ok_eAnd, M.kAnd, M.ok_eOr, M.kOr, M.ok_eNot, M.kNotE, M.ok_eChain, M.kCh, M.kCh2, M.ok_tOfE, M.kTo, M.ok_tTru, M.kTru, M.ok_tAnd, M.ok_tOr, M.ok_tNot, M.kTAnd, M.kTOr, M.kTNot, M.ok_tYes, M.ok_pNo, M.ok_pSome, M.kPs, M.ok_eCut, M.kCut, M.kCut1, M.kCut2, M.ok_eDGet, M.kDg, M.kDg2, M.ok_sSeq, M.kSeq_nx, M.kSeq_rt, M.kSeq_bk, M.kSeq_ct, M.ok_sSet, M.kSet, M.ok_sAsg, M.kAsg, M.ok_sPar, M.kPar, M.ok_sDrop, M.kDrop, M.ok_sRet, M.kRet, M.ok_sRetN, M.ok_sNext, M.ok_sBrk, M.ok_sCnt, M.ok_sIf, M.kIf, M.kAug, M.kApp, M.ok_sFor, M.kFor, M.ok_fnM, M.kFn_rt, M.kFn_nx, M.ok_iS, M.kIS_lst, M.kIS_tup, M.ok_iR1, M.kR1, M.ok_iR2, M.kR2, M.ok_eLstRg, M.ok_eTupRg, M.kRg, M.ok_rg1, M.kRg1, M.ok_rg2, M.kRg2, M.kRg2b, M.ok_eM1, M.kM1, M.kM1b, M.ok_eComp, M.kComp, M.kComp1, M.ok_eComp2, M.kCompC, M.kCompB, M.ok_eDisp, M.kDisp, M.ok_sAug1, M.ok_sApp1, M.kApp1, M.kIt_nx, M.kIt_ct, M.kIt_bk, M.kIt_rt, M.v_sub, M.v_addI, M.v_addA, M.v_subA, M.v_lt, M.v_le, M.v_gt, M.v_ge, M.v_int, M.v_lenL, M.v_lenT, M.v_lenZ, M.v_abs, M.v_max, M.v_min, M.v_neg, M.v_ixL, M.v_ixT, M.v_ixZ, M.v_cutL, M.v_cutT, M.v_tupL, M.v_tupT, M.v_lstL, M.v_lstT, M.tr_bl, M.tr_int, M.tr_lst, M.tr_tup, M.tr_non, M.env0_go, M.g_N, M.g_T, M.g_sC, M.g_sN, M.wipe0, M.wipeS, M.ge_0, M.ge_S, List.set_cons_zero, List.set_cons_succ, List.map_cons, List.map_nil, List.cons_append, List.nil_append, List.length_cons, List.length_nil, Nat.reduceAdd, Nat.reduceSub, List.replicate_succ, List.replicate_zero, Option.bind_some, String.reduceBEq, Int.reduceBEq, Bool.or_self, if_true, if_false, Bool.false_eq_true, Bool.not_true, Bool.not_false, true_and, and_true, decide_true, decide_false, Option.map_some, M.is_non_int, M.is_non_bool, M.is_non_str, M.is_non_tuple, M.is_non_list, M.is_non_dict, M.is_bl_int, M.is_bl_bool, M.is_bl_str, M.is_bl_tuple, M.is_bl_list, M.is_bl_dict, M.is_int_int, M.is_int_bool, M.is_int_str, M.is_int_tuple, M.is_int_list, M.is_int_dict, M.is_str_int, M.is_str_bool, M.is_str_str, M.is_str_tuple, M.is_str_list, M.is_str_dict, M.is_tup_int, M.is_tup_bool, M.is_tup_str, M.is_tup_tuple, M.is_tup_list, M.is_tup_dict, M.is_lst_int, M.is_lst_bool, M.is_lst_str, M.is_lst_tuple, M.is_lst_list, M.is_lst_dict, M.isn_non, M.isn_bl, M.isn_int, M.isn_str, M.isn_tup, M.isn_lst, M.str_beq, M.f_non, M.f_bl, M.f_int, M.f_str, M.fe_str, M.fe_int, M.fe_si, M.fe_is, M.in_tup, M.in_lst, M.nin_tup, M.nin_lst, M.at_0, M.at_1, M.at_2, M.at_3, M.eq_int, M.ne_int, M.eq_bl, M.eq_nil, M.eq_str, M.ne_str, List.all_cons, List.all_nil, List.any_cons, List.any_nil, Bool.and_self, Bool.or_false, Bool.false_or, Bool.or_true, Bool.true_or, Bool.and_true, Bool.true_and, Bool.and_false, Bool.false_and, beq_self_eq_true, bne_self_eq_false, M.ok_comp0, M.ok_compS, M.kCe, M.kCt, M.forD_nil, M.forD_cons, M.kForT_nx, M.kForT_ct, M.kForT_bk, M.kForT_rt, M.cut_1, M.all_1, M.all_2, M.any_1, M.any_2, M.sum_1, M.sum_2, M.all_map, M.any_map, M.sum_map, M.ok_eJs, M.ok_jsN, M.ok_jsC, M.kJs, f2]
      refine Ok.of (comp_f (at1 nu[i + 1]) id fun d hd => ?_) ?_
      · obtain ⟨q, _, rfl⟩ := List.mem_map.mp hd
        unfold p2 at1
        simp only [M.ok_ok, M.ok_no, M.oko_some, M.ok_eC, M.ok_eV0, M.ok_eVs, M.ok_e1, M.k1, M.ok_e2, M.k2a, M.k2, M.ok_evs0, M.ok_evs, M.kA, M.ok_eTup, M.ok_eLst, M.ok_eB, M.ok_eCall, M.kTup, M.kLst, M.kB, M.kCall, M.ok_eIf, M.kIfE, M.ok_eAnd, M.kAnd, M.ok_eOr, M.kOr, M.ok_eNot, M.kNotE, M.ok_eChain, M.kCh, M.kCh2, M.ok_tOfE, M.kTo, M.ok_tTru, M.kTru, M.ok_tAnd, M.ok_tOr, M.ok_tNot, M.kTAnd, M.kTOr, M.kTNot, M.ok_tYes, M.ok_pNo, M.ok_pSome, M.kPs, M.ok_eCut, M.kCut, M.kCut1, M.kCut2, M.ok_eDGet, M.kDg, M.kDg2, M.ok_sSeq, M.kSeq_nx, M.kSeq_rt, M.kSeq_bk, M.kSeq_ct, M.ok_sSet, M.kSet, M.ok_sAsg, M.kAsg, M.ok_sPar, M.kPar, M.ok_sDrop, M.kDrop, M.ok_sRet, M.kRet, M.ok_sRetN, M.ok_sNext, M.ok_sBrk, M.ok_sCnt, M.ok_sIf, M.kIf, M.kAug, M.kApp, M.ok_sFor, M.kFor, M.ok_fnM, M.kFn_rt, M.kFn_nx, M.ok_iS, M.kIS_lst, M.kIS_tup, M.ok_iR1, M.kR1, M.ok_iR2, M.kR2, M.ok_eLstRg, M.ok_eTupRg, M.kRg, M.ok_rg1, M.kRg1, M.ok_rg2, M.kRg2, M.kRg2b, M.ok_eM1, M.kM1, M.kM1b, M.ok_eComp, M.kComp, M.kComp1, M.ok_eComp2, M.kCompC, M.kCompB, M.ok_eDisp, M.kDisp, M.ok_sAug1, M.ok_sApp1, M.kApp1, M.kIt_nx, M.kIt_ct, M.kIt_bk, M.kIt_rt, M.v_sub, M.v_addI, M.v_addA, M.v_subA, M.v_lt, M.v_le, M.v_gt, M.v_ge, M.v_int, M.v_lenL, M.v_lenT, M.v_lenZ, M.v_abs, M.v_max, M.v_min, M.v_neg, M.v_ixL, M.v_ixT, M.v_ixZ, M.v_cutL, M.v_cutT, M.v_tupL, M.v_tupT, M.v_lstL, M.v_lstT, M.tr_bl, M.tr_int, M.tr_lst, M.tr_tup, M.tr_non, M.env0_go, M.g_N, M.g_T, M.g_sC, M.g_sN, M.wipe0, M.wipeS, M.ge_0, M.ge_S, List.set_cons_zero, List.set_cons_succ, List.map_cons, List.map_nil, List.cons_append, List.nil_append, List.length_cons, List.length_nil, Nat.reduceAdd, Nat.reduceSub, List.replicate_succ, List.replicate_zero, Option.bind_some, String.reduceBEq, Int.reduceBEq, Bool.or_self, if_true, if_false, Bool.false_eq_true, Bool.not_true, Bool.not_false, true_and, and_true, decide_true, decide_false, Option.map_some, M.is_non_int, M.is_non_bool, M.is_non_str, M.is_non_tuple, M.is_non_list, M.is_non_dict, M.is_bl_int, M.is_bl_bool, M.is_bl_str, M.is_bl_tuple, M.is_bl_list, M.is_bl_dict, M.is_int_int, M.is_int_bool, M.is_int_str, M.is_int_tuple, M.is_int_list, M.is_int_dict, M.is_str_int, M.is_str_bool, M.is_str_str, M.is_str_tuple, M.is_str_list, M.is_str_dict, M.is_tup_int, M.is_tup_bool, M.is_tup_str, M.is_tup_tuple, M.is_tup_list, M.is_tup_dict, M.is_lst_int, M.is_lst_bool, M.is_lst_str, M.is_lst_tuple, M.is_lst_list, M.is_lst_dict, M.isn_non, M.isn_bl, M.isn_int, M.isn_str, M.isn_tup, M.isn_lst, M.str_beq, M.f_non, M.f_bl, M.f_int, M.f_str, M.fe_str, M.fe_int, M.fe_si, M.fe_is, M.in_tup, M.in_lst, M.nin_tup, M.nin_lst, M.at_0, M.at_1, M.at_2, M.at_3, M.eq_int, M.ne_int, M.eq_bl, M.eq_nil, M.eq_str, M.ne_str, List.all_cons, List.all_nil, List.any_cons, List.any_nil, Bool.and_self, Bool.or_false, Bool.false_or, Bool.or_true, Bool.true_or, Bool.and_true, Bool.true_and, Bool.and_false, Bool.false_and, beq_self_eq_true, bne_self_eq_false, M.ok_comp0, M.ok_compS, M.kCe, M.kCt, M.forD_nil, M.forD_cons, M.kForT_nx, M.kForT_ct, M.kForT_bk, M.kForT_rt, M.cut_1, M.all_1, M.all_2, M.any_1, M.any_2, M.sum_1, M.sum_2, M.all_map, M.any_map, M.sum_map, M.ok_eJs, M.ok_jsN, M.ok_jsC, M.kJs, e1, a1]
        simp
      rw [filt1]
      obtain ⟨d, hd2, f3⟩ := pk_mem h2 (a' + 1 + 1) (tl t tn nn hs lk') ((le'.filter fun p => p.1 == nu[i + 1]).map p2) (List.ne_nil_of_mem (List.mem_map.mpr ⟨_, List.mem_filter.mpr ⟨k3.more (i + 1) hi1 (by omega) 0 (by omega), beq_self_eq_true _⟩, rfl⟩))
      obtain ⟨other, hr, rfl⟩ := List.mem_map.mp hd2
      obtain ⟨hr1, hr2⟩ := List.mem_filter.mp hr
      simp only [M.ok_ok, M.ok_no, M.oko_some, M.ok_eC, M.ok_eV0, M.ok_eVs, M.ok_e1, M.k1, M.ok_e2, M.k2a, M.k2, M.ok_evs0, M.ok_evs, M.kA, M.ok_eTup, M.ok_eLst, M.ok_eB, M.ok_eCall, M.kTup, M.kLst, M.kB, M.kCall, M.ok_eIf, M.kIfE, M.ok_eAnd, M.kAnd, M.ok_eOr, M.kOr, M.ok_eNot, M.kNotE, M.ok_eChain, M.kCh, M.kCh2, M.ok_tOfE, M.kTo, M.ok_tTru, M.kTru, M.ok_tAnd, M.ok_tOr, M.ok_tNot, M.kTAnd, M.kTOr, M.kTNot, M.ok_tYes, M.ok_pNo, M.ok_pSome, M.kPs, M.ok_eCut, M.kCut, M.kCut1, M.kCut2, M.ok_eDGet, M.kDg, M.kDg2, M.ok_sSeq, M.kSeq_nx, M.kSeq_rt, M.kSeq_bk, M.kSeq_ct, M.ok_sSet, M.kSet, M.ok_sAsg, M.kAsg, M.ok_sPar, M.kPar, M.ok_sDrop, M.kDrop, M.ok_sRet, M.kRet, M.ok_sRetN, M.ok_sNext, M.ok_sBrk, M.ok_sCnt, M.ok_sIf, M.kIf, M.kAug, M.kApp, M.ok_sFor, M.kFor, M.ok_fnM, M.kFn_rt, M.kFn_nx, M.ok_iS, M.kIS_lst, M.kIS_tup, M.ok_iR1, M.kR1, M.ok_iR2, M.kR2, M.ok_eLstRg, M.ok_eTupRg, M.kRg, M.ok_rg1, M.kRg1, M.ok_rg2, M.kRg2, M.kRg2b, M.ok_eM1, M.kM1, M.kM1b, M.ok_eComp, M.kComp, M.kComp1, M.ok_eComp2, M.kCompC, M.kCompB, M.ok_eDisp, M.kDisp, M.ok_sAug1, M.ok_sApp1, M.kApp1, M.kIt_nx, M.kIt_ct, M.kIt_bk, M.kIt_rt, M.v_sub, M.v_addI, M.v_addA, M.v_subA, M.v_lt, M.v_le, M.v_gt, M.v_ge, M.v_int, M.v_lenL, M.v_lenT, M.v_lenZ, M.v_abs, M.v_max, M.v_min, M.v_neg, M.v_ixL, M.v_ixT, M.v_ixZ, M.v_cutL, M.v_cutT, M.v_tupL, M.v_tupT, M.v_lstL, M.v_lstT, M.tr_bl, M.tr_int, M.tr_lst, M.tr_tup, M.tr_non, M.env0_go, M.g_N, M.g_T, M.g_sC, M.g_sN, M.wipe0, M.wipeS, M.ge_0, M.ge_S, List.set_cons_zero, List.set_cons_succ, List.map_cons, List.map_nil, List.cons_append, List.nil_append, List.length_cons, List.length_nil, Nat.reduceAdd, Nat.reduceSub, List.replicate_succ, List.replicate_zero, Option.bind_some, String.reduceBEq, Int.reduceBEq, Bool.or_self, if_true, if_false, Bool.false_eq_true, Bool.not_true, Bool.not_false, true_and, and_true, decide_true, decide_false, Option.map_some, M.is_non_int, M.is_non_bool, M.is_non_str, M.is_non_tuple, M.is_non_list, M.is_non_dict, M.is_bl_int, M.is_bl_bool, M.is_bl_str, M.is_bl_tuple, M.is_bl_list, M.is_bl_dict, M.is_int_int, M.is_int_bool, M.is_int_str, M.is_int_tuple, M.is_int_list, M.is_int_dict, M.is_str_int, M.is_str_bool, M.is_str_str, M.is_str_tuple, M.is_str_list, M.is_str_dict, M.is_tup_int, M.is_tup_bool, M.is_tup_str, M.is_tup_tuple, M.is_tup_list, M.is_tup_dict, M.is_lst_int, M.is_lst_bool, M.is_lst_str, M.is_lst_tuple, M.is_lst_list, M.is_lst_dict, M.isn_non, M.isn_bl, M.isn_int, M.isn_str, M.isn_tup, M.isn_lst, M.str_beq, M.f_non, M.f_bl, M.f_int, M.f_str, M.fe_str, M.fe_int, M.fe_si, M.fe_is, M.in_tup, M.in_lst, M.nin_tup, M.nin_lst, M.at_0, M.at_1, M.at_2, M.at_3, M.eq_int, M.ne_int, M.eq_bl, M.eq_nil, M.eq_str, M.ne_str, List.all_cons, List.all_nil, List.any_cons, List.any_nil, Bool.and_self, Bool.or_false, Bool.false_or, Bool.or_true, Bool.true_or, Bool.and_true, Bool.true_and, Bool.and_false, Bool.false_and, beq_self_eq_true, bne_self_eq_false, M.ok_comp0, M.ok_compS, M.kCe, M.kCt, M.forD_nil, M.forD_cons, M.kForT_nx, M.kForT_ct, M.kForT_bk, M.kForT_rt, M.cut_1, M.all_1, M.all_2, M.any_1, M.any_2, M.sum_1, M.sum_2, M.all_map, M.any_map, M.sum_map, M.ok_eJs, M.ok_jsN, M.ok_jsC, M.kJs, f3]
      refine Ok.of (comp_f (not2 one other) id fun d hd => ?_) ?_
      · obtain ⟨q, _, rfl⟩ := List.mem_map.mp hd
        have e5 : not2 one other (p2 q) = (!decide (q = one) && !decide (q = other)) := rfl
        rw [e5]
        by_cases d1 : q = one <;> by_cases d2 : q = other <;> simp only [M.ok_ok, M.ok_no, M.oko_some, M.ok_eC, M.ok_eV0, M.ok_eVs, M.ok_e1, M.k1, M.ok_e2, M.k2a, M.k2, M.ok_evs0, M.ok_evs, M.kA, M.ok_eTup, M.ok_eLst, M.ok_eB, M.ok_eCall, M.kTup, M.kLst, M.kB, M.kCall, M.ok_eIf, M.kIfE, M.ok_eAnd, M.kAnd, M.ok_eOr, M.kOr, M.ok_eNot, M.kNotE, M.ok_eChain, M.kCh, M.kCh2, M.ok_tOfE, M.kTo, M.ok_tTru, M.kTru, M.ok_tAnd, M.ok_tOr, M.ok_tNot, M.kTAnd, M.kTOr, M.kTNot, M.ok_tYes, M.ok_pNo, M.ok_pSome, M.kPs, M.ok_eCut, M.kCut, M.kCut1, M.kCut2, M.ok_eDGet, M.kDg, M.kDg2, M.ok_sSeq, M.kSeq_nx, M.kSeq_rt, M.kSeq_bk, M.kSeq_ct, M.ok_sSet, M.kSet, M.ok_sAsg, M.kAsg, M.ok_sPar, M.kPar, M.ok_sDrop, M.kDrop, M.ok_sRet, M.kRet, M.ok_sRetN, M.ok_sNext, M.ok_sBrk, M.ok_sCnt, M.ok_sIf, M.kIf, M.kAug, M.kApp, M.ok_sFor, M.kFor, M.ok_fnM, M.kFn_rt, M.kFn_nx, M.ok_iS, M.kIS_lst, M.kIS_tup, M.ok_iR1, M.kR1, M.ok_iR2, M.kR2, M.ok_eLstRg, M.ok_eTupRg, M.kRg, M.ok_rg1, M.kRg1, M.ok_rg2, M.kRg2, M.kRg2b, M.ok_eM1, M.kM1, M.kM1b, M.ok_eComp, M.kComp, M.kComp1, M.ok_eComp2, M.kCompC, M.kCompB, M.ok_eDisp, M.kDisp, M.ok_sAug1, M.ok_sApp1, M.kApp1, M.kIt_nx, M.kIt_ct, M.kIt_bk, M.kIt_rt, M.v_sub, M.v_addI, M.v_addA, M.v_subA, M.v_lt, M.v_le, M.v_gt, M.v_ge, M.v_int, M.v_lenL, M.v_lenT, M.v_lenZ, M.v_abs, M.v_max, M.v_min, M.v_neg, M.v_ixL, M.v_ixT, M.v_ixZ, M.v_cutL, M.v_cutT, M.v_tupL, M.v_tupT, M.v_lstL, M.v_lstT, M.tr_bl, M.tr_int, M.tr_lst, M.tr_tup, M.tr_non, M.env0_go, M.g_N, M.g_T, M.g_sC, M.g_sN, M.wipe0, M.wipeS, M.ge_0, M.ge_S, List.set_cons_zero, List.set_cons_succ, List.map_cons, List.map_nil, List.cons_append, List.nil_append, List.length_cons, List.length_nil, Nat.reduceAdd, Nat.reduceSub, List.replicate_succ, List.replicate_zero, Option.bind_some, String.reduceBEq, Int.reduceBEq, Bool.or_self, if_true, if_false, Bool.false_eq_true, Bool.not_true, Bool.not_false, true_and, and_true, decide_true, decide_false, Option.map_some, M.is_non_int, M.is_non_bool, M.is_non_str, M.is_non_tuple, M.is_non_list, M.is_non_dict, M.is_bl_int, M.is_bl_bool, M.is_bl_str, M.is_bl_tuple, M.is_bl_list, M.is_bl_dict, M.is_int_int, M.is_int_bool, M.is_int_str, M.is_int_tuple, M.is_int_list, M.is_int_dict, M.is_str_int, M.is_str_bool, M.is_str_str, M.is_str_tuple, M.is_str_list, M.is_str_dict, M.is_tup_int, M.is_tup_bool, M.is_tup_str, M.is_tup_tuple, M.is_tup_list, M.is_tup_dict, M.is_lst_int, M.is_lst_bool, M.is_lst_str, M.is_lst_tuple, M.is_lst_list, M.is_lst_dict, M.isn_non, M.isn_bl, M.isn_int, M.isn_str, M.isn_tup, M.isn_lst, M.str_beq, M.f_non, M.f_bl, M.f_int, M.f_str, M.fe_str, M.fe_int, M.fe_si, M.fe_is, M.in_tup, M.in_lst, M.nin_tup, M.nin_lst, M.at_0, M.at_1, M.at_2, M.at_3, M.eq_int, M.ne_int, M.eq_bl, M.eq_nil, M.eq_str, M.ne_str, List.all_cons, List.all_nil, List.any_cons, List.any_nil, Bool.and_self, Bool.or_false, Bool.false_or, Bool.or_true, Bool.true_or, Bool.and_true, Bool.true_and, Bool.and_false, Bool.false_and, beq_self_eq_true, bne_self_eq_false, M.kCe, M.kCt, M.kForT_nx, M.kForT_ct, M.kForT_bk, M.kForT_rt, M.cut_1, M.all_1, M.all_2, M.any_1, M.any_2, M.sum_1, M.sum_2, M.all_map, M.any_map, M.sum_map, M.ok_eJs, M.ok_jsN, M.ok_jsC, M.kJs, ne_p2, d1, d2] <;> simp
      rw [filt2]
      obtain ⟨v, a2, lk2, f4, g4⟩ := h3 (a' + 1 + 1 + 1) (t.length + 3) (tl t tn nn hs lk') one other lk' tl_g3 (by omega)
      rw [tl_s3] at f4
      simp only [M.ok_ok, M.ok_no, M.oko_some, M.ok_eC, M.ok_eV0, M.ok_eVs, M.ok_e1, M.k1, M.ok_e2, M.k2a, M.k2, M.ok_evs0, M.ok_evs, M.kA, M.ok_eTup, M.ok_eLst, M.ok_eB, M.ok_eCall, M.kTup, M.kLst, M.kB, M.kCall, M.ok_eIf, M.kIfE, M.ok_eAnd, M.kAnd, M.ok_eOr, M.kOr, M.ok_eNot, M.kNotE, M.ok_eChain, M.kCh, M.kCh2, M.ok_tOfE, M.kTo, M.ok_tTru, M.kTru, M.ok_tAnd, M.ok_tOr, M.ok_tNot, M.kTAnd, M.kTOr, M.kTNot, M.ok_tYes, M.ok_pNo, M.ok_pSome, M.kPs, M.ok_eCut, M.kCut, M.kCut1, M.kCut2, M.ok_eDGet, M.kDg, M.kDg2, M.ok_sSeq, M.kSeq_nx, M.kSeq_rt, M.kSeq_bk, M.kSeq_ct, M.ok_sSet, M.kSet, M.ok_sAsg, M.kAsg, M.ok_sPar, M.kPar, M.ok_sDrop, M.kDrop, M.ok_sRet, M.kRet, M.ok_sRetN, M.ok_sNext, M.ok_sBrk, M.ok_sCnt, M.ok_sIf, M.kIf, M.kAug, M.kApp, M.ok_sFor, M.kFor, M.ok_fnM, M.kFn_rt, M.kFn_nx, M.ok_iS, M.kIS_lst, M.kIS_tup, M.ok_iR1, M.kR1, M.ok_iR2, M.kR2, M.ok_eLstRg, M.ok_eTupRg, M.kRg, M.ok_rg1, M.kRg1, M.ok_rg2, M.kRg2, M.kRg2b, M.ok_eM1, M.kM1, M.kM1b, M.ok_eComp, M.kComp, M.kComp1, M.ok_eComp2, M.kCompC, M.kCompB, M.ok_eDisp, M.kDisp, M.ok_sAug1, M.ok_sApp1, M.kApp1, M.kIt_nx, M.kIt_ct, M.kIt_bk, M.kIt_rt, M.v_sub, M.v_addI, M.v_addA, M.v_subA, M.v_lt, M.v_le, M.v_gt, M.v_ge, M.v_int, M.v_lenL, M.v_lenT, M.v_lenZ, M.v_abs, M.v_max, M.v_min, M.v_neg, M.v_ixL, M.v_ixT, M.v_ixZ, M.v_cutL, M.v_cutT, M.v_tupL, M.v_tupT, M.v_lstL, M.v_lstT, M.tr_bl, M.tr_int, M.tr_lst, M.tr_tup, M.tr_non, M.env0_go, M.g_N, M.g_T, M.g_sC, M.g_sN, M.wipe0, M.wipeS, M.ge_0, M.ge_S, List.set_cons_zero, List.set_cons_succ, List.map_cons, List.map_nil, List.cons_append, List.nil_append, List.length_cons, List.length_nil, Nat.reduceAdd, Nat.reduceSub, List.replicate_succ, List.replicate_zero, Option.bind_some, String.reduceBEq, Int.reduceBEq, Bool.or_self, if_true, if_false, Bool.false_eq_true, Bool.not_true, Bool.not_false, true_and, and_true, decide_true, decide_false, Option.map_some, M.is_non_int, M.is_non_bool, M.is_non_str, M.is_non_tuple, M.is_non_list, M.is_non_dict, M.is_bl_int, M.is_bl_bool, M.is_bl_str, M.is_bl_tuple, M.is_bl_list, M.is_bl_dict, M.is_int_int, M.is_int_bool, M.is_int_str, M.is_int_tuple, M.is_int_list, M.is_int_dict, M.is_str_int, M.is_str_bool, M.is_str_str, M.is_str_tuple, M.is_str_list, M.is_str_dict, M.is_tup_int, M.is_tup_bool, M.is_tup_str, M.is_tup_tuple, M.is_tup_list, M.is_tup_dict, M.is_lst_int, M.is_lst_bool, M.is_lst_str, M.is_lst_tuple, M.is_lst_list, M.is_lst_dict, M.isn_non, M.isn_bl, M.isn_int, M.isn_str, M.isn_tup, M.isn_lst, M.str_beq, M.f_non, M.f_bl, M.f_int, M.f_str, M.fe_str, M.fe_int, M.fe_si, M.fe_is, M.in_tup, M.in_lst, M.nin_tup, M.nin_lst, M.at_0, M.at_1, M.at_2, M.at_3, M.eq_int, M.ne_int, M.eq_bl, M.eq_nil, M.eq_str, M.ne_str, List.all_cons, List.all_nil, List.any_cons, List.any_nil, Bool.and_self, Bool.or_false, Bool.false_or, Bool.or_true, Bool.true_or, Bool.and_true, Bool.true_and, Bool.and_false, Bool.false_and, beq_self_eq_true, bne_self_eq_false, M.ok_comp0, M.ok_compS, M.kCe, M.kCt, M.forD_nil, M.forD_cons, M.kForT_nx, M.kForT_ct, M.kForT_bk, M.kForT_rt, M.cut_1, M.all_1, M.all_2, M.any_1, M.any_2, M.sum_1, M.sum_2, M.all_map, M.any_map, M.sum_map, M.ok_eJs, M.ok_jsN, M.ok_jsC, M.kJs, f4]
      exact ⟨a2, _, _, _, _, _, lk2, Nat.le_trans (List.length_filter_le _ _) k1, by omega, k3.step hn hp hi1 one other (beq_iff_eq.mp ho2) (beq_iff_eq.mp hr2), rfl, rfl⟩
    · simp only [M.ok_ok, M.ok_no, M.oko_some, M.ok_eC, M.ok_eV0, M.ok_eVs, M.ok_e1, M.k1, M.ok_e2, M.k2a, M.k2, M.ok_evs0, M.ok_evs, M.kA, M.ok_eTup, M.ok_eLst, M.ok_eB, M.ok_eCall, M.kTup, M.kLst, M.kB, M.kCall, M.ok_eIf, M.kIfE, M.ok_eAnd, M.kAnd, M.ok_eOr, M.kOr, M.ok_eNot, M.kNotE, M.ok_eChain, M.kCh, M.kCh2, M.ok_tOfE, M.kTo, M.ok_tTru, M.kTru, M.ok_tAnd, M.ok_tOr, M.ok_tNot, M.kTAnd, M.kTOr, M.kTNot, M.ok_tYes, M.ok_pNo, M.ok_pSome, M.kPs, M.ok_eCut, M.kCut, M.kCut1, M.kCut2, M.ok_eDGet, M.kDg, M.kDg2, M.ok_sSeq, M.kSeq_nx, M.kSeq_rt, M.kSeq_bk, M.kSeq_ct, M.ok_sSet, M.kSet, M.ok_sAsg, M.kAsg, M.ok_sPar, M.kPar, M.ok_sDrop, M.kDrop, M.ok_sRet, M.kRet, M.ok_sRetN, M.ok_sNext, M.ok_sBrk, M.ok_sCnt, M.ok_sIf, M.kIf, M.kAug, M.kApp, M.ok_sFor, M.kFor, M.ok_fnM, M.kFn_rt, M.kFn_nx, M.ok_iS, M.kIS_lst, M.kIS_tup, M.ok_iR1, M.kR1, M.ok_iR2, M.kR2, M.ok_eLstRg, M.ok_eTupRg, M.kRg, M.ok_rg1, M.kRg1, M.ok_rg2, M.kRg2, M.kRg2b, M.ok_eM1, M.kM1, M.kM1b, M.ok_eComp, M.kComp, M.kComp1, M.ok_eComp2, M.kCompC, M.kCompB, M.ok_eDisp, M.kDisp, M.ok_sAug1, M.ok_sApp1, M.kApp1, M.kIt_nx, M.kIt_ct, M.kIt_bk, M.kIt_rt, M.v_sub, M.v_addI, M.v_addA, M.v_subA, M.v_lt, M.v_le, M.v_gt, M.v_ge, M.v_int, M.v_lenL, M.v_lenT, M.v_lenZ, M.v_abs, M.v_max, M.v_min, M.v_neg, M.v_ixL, M.v_ixT, M.v_ixZ, M.v_cutL, M.v_cutT, M.v_tupL, M.v_tupT, M.v_lstL, M.v_lstT, M.tr_bl, M.tr_int, M.tr_lst, M.tr_tup, M.tr_non, M.env0_go, M.g_N, M.g_T, M.g_sC, M.g_sN, M.wipe0, M.wipeS, M.ge_0, M.ge_S, List.set_cons_zero, List.set_cons_succ, List.map_cons, List.map_nil, List.cons_append, List.nil_append, List.length_cons, List.length_nil, Nat.reduceAdd, Nat.reduceSub, List.replicate_succ, List.replicate_zero, Option.bind_some, String.reduceBEq, Int.reduceBEq, Bool.or_self, if_true, if_false, Bool.false_eq_true, Bool.not_true, Bool.not_false, true_and, and_true, decide_true, decide_false, Option.map_some, M.is_non_int, M.is_non_bool, M.is_non_str, M.is_non_tuple, M.is_non_list, M.is_non_dict, M.is_bl_int, M.is_bl_bool, M.is_bl_str, M.is_bl_tuple, M.is_bl_list, M.is_bl_dict, M.is_int_int, M.is_int_bool, M.is_int_str, M.is_int_tuple, M.is_int_list, M.is_int_dict, M.is_str_int, M.is_str_bool, M.is_str_str, M.is_str_tuple, M.is_str_list, M.is_str_dict, M.is_tup_int, M.is_tup_bool, M.is_tup_str, M.is_tup_tuple, M.is_tup_list, M.is_tup_dict, M.is_lst_int, M.is_lst_bool, M.is_lst_str, M.is_lst_tuple, M.is_lst_list, M.is_lst_dict, M.isn_non, M.isn_bl, M.isn_int, M.isn_str, M.isn_tup, M.isn_lst, M.str_beq, M.f_non, M.f_bl, M.f_int, M.f_str, M.fe_str, M.fe_int, M.fe_si, M.fe_is, M.in_tup, M.in_lst, M.nin_tup, M.nin_lst, M.at_0, M.at_1, M.at_2, M.at_3, M.eq_int, M.ne_int, M.eq_bl, M.eq_nil, M.eq_str, M.ne_str, List.all_cons, List.all_nil, List.any_cons, List.any_nil, Bool.and_self, Bool.or_false, Bool.false_or, Bool.or_true, Bool.true_or, Bool.and_true, Bool.true_and, Bool.and_false, Bool.false_and, beq_self_eq_true, bne_self_eq_false, M.ok_comp0, M.ok_compS, M.kCe, M.kCt, M.forD_nil, M.forD_cons, M.kForT_nx, M.kForT_ct, M.kForT_bk, M.kForT_rt, M.cut_1, M.all_1, M.all_2, M.any_1, M.any_2, M.sum_1, M.sum_2, M.all_map, M.any_map, M.sum_map, M.ok_eJs, M.ok_jsN, M.ok_jsC, M.kJs, e0, f1, c]
      exact ⟨_, _, _, _, _, _, lk', k1, by omega, k3.skip hp hi1, rfl, rfl⟩
  · rintro ρ s ⟨a', p6, p15, p16, p17, le', lk', k1, k2, k3, rfl, rfl⟩
    exact ⟨a', p6, p15, p16, p17, le', lk', k1, by omega, rfl, rfl⟩
end
end M
/-! P10: hosts, more links, switches; the whole net. -/
namespace M
open PySem PySem.Spec PyProof.Rows L2
section
variable {nx pk nm tk jn : Fn1} {xs : List Int} {n a many ports size : Nat} {hd : D} {o4 o5 o6 o7 o15 o16 o17 o18 : Option D} {nu : List Int} {le : List (Int × Int)} {t : Sto}
variable {tn nn : List D} {hs : List (Str × Int × Int)} {lk : List L4}
def ND4 (nx tk nm : Fn1) : MS := sFor (iR1 [(e2 oAdd (eC (.int 2)) (eCall nx [(eV 0), (eC (.int 2))]))]) (gN 4) (sIf (tOfE (e2 oNe (eV 11) (eLst []))) (sSeq (sAsg (eCall tk [(eV 0), (eV 11)]) (gT (gsC (gN 17) (gsC (gN 11) gsN))))
    (sRApp (eV 13) (e2 oAdd (eTup [(eCall nm [(eV 0), (eV 12)])]) (eV 17)))) sNext)
theorem ne_nil {le : List (Int × Int)} : oNe (.lst (le.map p2)) (.lst []) = some (.bl (!decide (le = []))) := Enc.ne (Enc.lst E2) (by decide) le []
theorem take_le (h : Htk tk xs) (a : Nat) (t : Sto) (hn : le ≠ []) (hl : le.length ≤ 1000) : ∃ (p : Int × Int) (le' : List (Int × Int)), le'.length + 1 = le.length ∧ tk [.ref 0, .lst (le.map p2)] (Sd xs a t) = .ok (.tup [p2 p, .lst (le'.map p2)]) (Sd xs (a + 1) t) := by
  obtain ⟨i, hi, e⟩ := h a t (le.map p2) (by intro z; exact hn (List.map_eq_nil_iff.mp z)) (by rw [List.length_map]; exact hl)
  rw [List.length_map] at hi
  rw [erase_map, List.getElem_map] at e
  refine ⟨_, le.eraseIdx i, ?_, e⟩
  rw [List.length_eraseIdx_of_lt hi]
  omega
theorem nd4_ok (h1 : Hnx nx xs) (h2 : Htk tk xs) (h3 : Hnm nm xs) (hle : le.length ≤ 1000) (hlk : lk.length ≤ 1000) :
    Ok (ND4 nx tk nm (en t.length hd o4 o5 o6 o7 many ports size nu le o15 o16 o17 o18) (Sd xs a (tl t tn [] [] lk))) fun o s => ∃ (a' : Nat) (p4 p17 : Option D) (le' : List (Int × Int)) (nn' : List D) (hs' : List (Str × Int × Int)), le'.length ≤ 1000 ∧ hs'.length ≤ 100 ∧ o = .nx (en t.length hd p4 o5 o6 o7 many ports size nu le' o15 o16 p17 o18) ∧ s = Sd xs a' (tl t tn nn' hs' lk) := by
  have sl : sizeLine = 16777216 := rfl
  obtain ⟨n1, q1, f1⟩ := nx_nat h1 a (tl t tn [] [] lk) 2 (by decide)
  have f1 : nx [.ref 0, .int 2] (Sd xs a (tl t tn [] [] lk)) = .ok (.int n1) (Sd xs (a + 1) (tl t tn [] [] lk)) := f1
  unfold ND4 en
  simp only [M.ok_ok, M.ok_no, M.oko_some, M.ok_eC, M.ok_eV0, M.ok_eVs, M.ok_e1, M.k1, M.ok_e2, M.k2a, M.k2, M.ok_evs0, M.ok_evs, M.kA, M.ok_eTup, M.ok_eLst, M.ok_eB, M.ok_eCall, M.kTup, M.kLst, M.kB, M.kCall, M.ok_eIf, M.kIfE, M.ok_eAnd, M.kAnd, M.ok_eOr, M.kOr, M.ok_eNot, M.kNotE, M.ok_eChain, M.kCh, M.kCh2, M.ok_tOfE, M.kTo, M.ok_tTru, M.kTru, M.ok_tAnd, M.ok_tOr, M.ok_tNot, M.kTAnd, M.kTOr, M.kTNot, M.ok_tYes, M.ok_pNo, M.ok_pSome, M.kPs, M.ok_eCut, M.kCut, M.kCut1, M.kCut2, M.ok_eDGet, M.kDg, M.kDg2, M.ok_sSeq, M.kSeq_nx, M.kSeq_rt, M.kSeq_bk, M.kSeq_ct, M.ok_sSet, M.kSet, M.ok_sAsg, M.kAsg, M.ok_sPar, M.kPar, M.ok_sDrop, M.kDrop, M.ok_sRet, M.kRet, M.ok_sRetN, M.ok_sNext, M.ok_sBrk, M.ok_sCnt, M.ok_sIf, M.kIf, M.kAug, M.kApp, M.ok_sFor, M.kFor, M.ok_fnM, M.kFn_rt, M.kFn_nx, M.ok_iS, M.kIS_lst, M.kIS_tup, M.ok_iR1, M.kR1, M.ok_iR2, M.kR2, M.ok_eLstRg, M.ok_eTupRg, M.kRg, M.ok_rg1, M.kRg1, M.ok_rg2, M.kRg2, M.kRg2b, M.ok_eM1, M.kM1, M.kM1b, M.ok_eComp, M.kComp, M.kComp1, M.ok_eComp2, M.kCompC, M.kCompB, M.ok_eDisp, M.kDisp, M.ok_sAug1, M.ok_sApp1, M.kApp1, M.kIt_nx, M.kIt_ct, M.kIt_bk, M.kIt_rt, M.v_sub, M.v_addI, M.v_addA, M.v_subA, M.v_lt, M.v_le, M.v_gt, M.v_ge, M.v_int, M.v_lenL, M.v_lenT, M.v_lenZ, M.v_abs, M.v_max, M.v_min, M.v_neg, M.v_ixL, M.v_ixT, M.v_ixZ, M.v_cutL, M.v_cutT, M.v_tupL, M.v_tupT, M.v_lstL, M.v_lstT, M.tr_bl, M.tr_int, M.tr_lst, M.tr_tup, M.tr_non, M.env0_go, M.g_N, M.g_T, M.g_sC, M.g_sN, M.wipe0, M.wipeS, M.ge_0, M.ge_S, List.set_cons_zero, List.set_cons_succ, List.map_cons, List.map_nil, List.cons_append, List.nil_append, List.length_cons, List.length_nil, Nat.reduceAdd, Nat.reduceSub, List.replicate_succ, List.replicate_zero, Option.bind_some, String.reduceBEq, Int.reduceBEq, Bool.or_self, if_true, if_false, Bool.false_eq_true, Bool.not_true, Bool.not_false, true_and, and_true, decide_true, decide_false, Option.map_some, M.is_non_int, M.is_non_bool, M.is_non_str, M.is_non_tuple, M.is_non_list, M.is_non_dict, M.is_bl_int, M.is_bl_bool, M.is_bl_str, M.is_bl_tuple, M.is_bl_list, M.is_bl_dict, M.is_int_int, M.is_int_bool, M.is_int_str, M.is_int_tuple, M.is_int_list, M.is_int_dict, M.is_str_int, M.is_str_bool, M.is_str_str, M.is_str_tuple, M.is_str_list, M.is_str_dict, M.is_tup_int, M.is_tup_bool, M.is_tup_str, M.is_tup_tuple, M.is_tup_list, M.is_tup_dict, M.is_lst_int, M.is_lst_bool, M.is_lst_str, M.is_lst_tuple, M.is_lst_list, M.is_lst_dict, M.isn_non, M.isn_bl, M.isn_int, M.isn_str, M.isn_tup, M.isn_lst, M.str_beq, M.f_non, M.f_bl, M.f_int, M.f_str, M.fe_str, M.fe_int, M.fe_si, M.fe_is, M.in_tup, M.in_lst, M.nin_tup, M.nin_lst, M.at_0, M.at_1, M.at_2, M.at_3, M.eq_int, M.ne_int, M.eq_bl, M.eq_nil, M.eq_str, M.ne_str, List.all_cons, List.all_nil, List.any_cons, List.any_nil, Bool.and_self, Bool.or_false, Bool.false_or, Bool.or_true, Bool.true_or, Bool.and_true, Bool.true_and, Bool.and_false, Bool.false_and, beq_self_eq_true, bne_self_eq_false, M.ok_comp0, M.ok_compS, M.kCe, M.kCt, M.forD_nil, M.forD_cons, M.kForT_nx, M.kForT_ct, M.kForT_bk, M.kForT_rt, M.cut_1, M.all_1, M.all_2, M.any_1, M.any_2, M.sum_1, M.sum_2, M.all_map, M.any_map, M.sum_map, M.ok_eJs, M.ok_jsN, M.ok_jsC, M.kJs, f1]
  refine ⟨by omega, ?_⟩
  rw [show ((2 : Int) + n1).toNat = 2 + n1 by omega]
  refine for_rng (fun i ρ s => ∃ (a' : Nat) (p4 p17 : Option D) (le' : List (Int × Int)) (nn' : List D) (hs' : List (Str × Int × Int)), le'.length ≤ 1000 ∧ nn'.all flatD = true ∧ nn'.length ≤ i ∧ hs'.length ≤ i ∧ ρ = en t.length hd p4 o5 o6 o7 many ports size nu le' o15 o16 p17 o18 ∧ s = Sd xs a' (tl t tn nn' hs' lk)) ⟨_, _, _, le, [], [], hle, rfl, Nat.le_refl _, Nat.le_refl _, rfl, rfl⟩ ?_ ?_
  · rintro i ρ s hi ⟨a', p4, p17, le', nn', hs', k1, k2, k3, k4, rfl, rfl⟩
    unfold en
    by_cases c : le' = []
    · subst c
      have nn0 : oNe (.lst []) (.lst []) = some (.bl false) := ne_nil (le := [])
      simp only [M.ok_ok, M.ok_no, M.oko_some, M.ok_eC, M.ok_eV0, M.ok_eVs, M.ok_e1, M.k1, M.ok_e2, M.k2a, M.k2, M.ok_evs0, M.ok_evs, M.kA, M.ok_eTup, M.ok_eLst, M.ok_eB, M.ok_eCall, M.kTup, M.kLst, M.kB, M.kCall, M.ok_eIf, M.kIfE, M.ok_eAnd, M.kAnd, M.ok_eOr, M.kOr, M.ok_eNot, M.kNotE, M.ok_eChain, M.kCh, M.kCh2, M.ok_tOfE, M.kTo, M.ok_tTru, M.kTru, M.ok_tAnd, M.ok_tOr, M.ok_tNot, M.kTAnd, M.kTOr, M.kTNot, M.ok_tYes, M.ok_pNo, M.ok_pSome, M.kPs, M.ok_eCut, M.kCut, M.kCut1, M.kCut2, M.ok_eDGet, M.kDg, M.kDg2, M.ok_sSeq, M.kSeq_nx, M.kSeq_rt, M.kSeq_bk, M.kSeq_ct, M.ok_sSet, M.kSet, M.ok_sAsg, M.kAsg, M.ok_sPar, M.kPar, M.ok_sDrop, M.kDrop, M.ok_sRet, M.kRet, M.ok_sRetN, M.ok_sNext, M.ok_sBrk, M.ok_sCnt, M.ok_sIf, M.kIf, M.kAug, M.kApp, M.ok_sFor, M.kFor, M.ok_fnM, M.kFn_rt, M.kFn_nx, M.ok_iS, M.kIS_lst, M.kIS_tup, M.ok_iR1, M.kR1, M.ok_iR2, M.kR2, M.ok_eLstRg, M.ok_eTupRg, M.kRg, M.ok_rg1, M.kRg1, M.ok_rg2, M.kRg2, M.kRg2b, M.ok_eM1, M.kM1, M.kM1b, M.ok_eComp, M.kComp, M.kComp1, M.ok_eComp2, M.kCompC, M.kCompB, M.ok_eDisp, M.kDisp, M.ok_sAug1, M.ok_sApp1, M.kApp1, M.kIt_nx, M.kIt_ct, M.kIt_bk, M.kIt_rt, M.v_sub, M.v_addI, M.v_addA, M.v_subA, M.v_lt, M.v_le, M.v_gt, M.v_ge, M.v_int, M.v_lenL, M.v_lenT, M.v_lenZ, M.v_abs, M.v_max, M.v_min, M.v_neg, M.v_ixL, M.v_ixT, M.v_ixZ, M.v_cutL, M.v_cutT, M.v_tupL, M.v_tupT, M.v_lstL, M.v_lstT, M.tr_bl, M.tr_int, M.tr_lst, M.tr_tup, M.tr_non, M.env0_go, M.g_N, M.g_T, M.g_sC, M.g_sN, M.wipe0, M.wipeS, M.ge_0, M.ge_S, List.set_cons_zero, List.set_cons_succ, List.map_cons, List.map_nil, List.cons_append, List.nil_append, List.length_cons, List.length_nil, Nat.reduceAdd, Nat.reduceSub, List.replicate_succ, List.replicate_zero, Option.bind_some, String.reduceBEq, Int.reduceBEq, Bool.or_self, if_true, if_false, Bool.false_eq_true, Bool.not_true, Bool.not_false, true_and, and_true, decide_true, decide_false, Option.map_some, M.is_non_int, M.is_non_bool, M.is_non_str, M.is_non_tuple, M.is_non_list, M.is_non_dict, M.is_bl_int, M.is_bl_bool, M.is_bl_str, M.is_bl_tuple, M.is_bl_list, M.is_bl_dict, M.is_int_int, M.is_int_bool, M.is_int_str, M.is_int_tuple, M.is_int_list, M.is_int_dict, M.is_str_int, M.is_str_bool, M.is_str_str, M.is_str_tuple, M.is_str_list, M.is_str_dict, M.is_tup_int, M.is_tup_bool, M.is_tup_str, M.is_tup_tuple, M.is_tup_list, M.is_tup_dict, M.is_lst_int, M.is_lst_bool, M.is_lst_str, M.is_lst_tuple, M.is_lst_list, M.is_lst_dict, M.isn_non, M.isn_bl, M.isn_int, M.isn_str, M.isn_tup, M.isn_lst, M.str_beq, M.f_non, M.f_bl, M.f_int, M.f_str, M.fe_str, M.fe_int, M.fe_si, M.fe_is, M.in_tup, M.in_lst, M.nin_tup, M.nin_lst, M.at_0, M.at_1, M.at_2, M.at_3, M.eq_int, M.ne_int, M.eq_bl, M.eq_nil, M.eq_str, M.ne_str, List.all_cons, List.all_nil, List.any_cons, List.any_nil, Bool.and_self, Bool.or_false, Bool.false_or, Bool.or_true, Bool.true_or, Bool.and_true, Bool.true_and, Bool.and_false, Bool.false_and, beq_self_eq_true, bne_self_eq_false, M.kCe, M.kCt, M.kForT_nx, M.kForT_ct, M.kForT_bk, M.kForT_rt, M.cut_1, M.all_1, M.all_2, M.any_1, M.any_2, M.sum_1, M.sum_2, M.all_map, M.any_map, M.sum_map, M.ok_eJs, M.ok_jsN, M.ok_jsC, M.kJs, nn0]
      exact ⟨_, _, _, [], nn', hs', Nat.zero_le _, k2, by omega, by omega, rfl, rfl⟩
    · obtain ⟨p, le2, g1, f2⟩ := take_le h2 a' (tl t tn nn' hs' lk) c k1
      obtain ⟨a2, x, f3⟩ := h3 (a' + 1) (t.length + 1) (tl t tn nn' hs' lk) nn' tl_g1 k2 (by omega)
      rw [tl_s1] at f3
      simp only [M.ok_ok, M.ok_no, M.oko_some, M.ok_eC, M.ok_eV0, M.ok_eVs, M.ok_e1, M.k1, M.ok_e2, M.k2a, M.k2, M.ok_evs0, M.ok_evs, M.kA, M.ok_eTup, M.ok_eLst, M.ok_eB, M.ok_eCall, M.kTup, M.kLst, M.kB, M.kCall, M.ok_eIf, M.kIfE, M.ok_eAnd, M.kAnd, M.ok_eOr, M.kOr, M.ok_eNot, M.kNotE, M.ok_eChain, M.kCh, M.kCh2, M.ok_tOfE, M.kTo, M.ok_tTru, M.kTru, M.ok_tAnd, M.ok_tOr, M.ok_tNot, M.kTAnd, M.kTOr, M.kTNot, M.ok_tYes, M.ok_pNo, M.ok_pSome, M.kPs, M.ok_eCut, M.kCut, M.kCut1, M.kCut2, M.ok_eDGet, M.kDg, M.kDg2, M.ok_sSeq, M.kSeq_nx, M.kSeq_rt, M.kSeq_bk, M.kSeq_ct, M.ok_sSet, M.kSet, M.ok_sAsg, M.kAsg, M.ok_sPar, M.kPar, M.ok_sDrop, M.kDrop, M.ok_sRet, M.kRet, M.ok_sRetN, M.ok_sNext, M.ok_sBrk, M.ok_sCnt, M.ok_sIf, M.kIf, M.kAug, M.kApp, M.ok_sFor, M.kFor, M.ok_fnM, M.kFn_rt, M.kFn_nx, M.ok_iS, M.kIS_lst, M.kIS_tup, M.ok_iR1, M.kR1, M.ok_iR2, M.kR2, M.ok_eLstRg, M.ok_eTupRg, M.kRg, M.ok_rg1, M.kRg1, M.ok_rg2, M.kRg2, M.kRg2b, M.ok_eM1, M.kM1, M.kM1b, M.ok_eComp, M.kComp, M.kComp1, M.ok_eComp2, M.kCompC, M.kCompB, M.ok_eDisp, M.kDisp, M.ok_sAug1, M.ok_sApp1, M.kApp1, M.kIt_nx, M.kIt_ct, M.kIt_bk, M.kIt_rt, M.v_sub, M.v_addI, M.v_addA, M.v_subA, M.v_lt, M.v_le, M.v_gt, M.v_ge, M.v_int, M.v_lenL, M.v_lenT, M.v_lenZ, M.v_abs, M.v_max, M.v_min, M.v_neg, M.v_ixL, M.v_ixT, M.v_ixZ, M.v_cutL, M.v_cutT, M.v_tupL, M.v_tupT, M.v_lstL, M.v_lstT, M.tr_bl, M.tr_int, M.tr_lst, M.tr_tup, M.tr_non, M.env0_go, M.g_N, M.g_T, M.g_sC, M.g_sN, M.wipe0, M.wipeS, M.ge_0, M.ge_S, List.set_cons_zero, List.set_cons_succ, List.map_cons, List.map_nil, List.cons_append, List.nil_append, List.length_cons, List.length_nil, Nat.reduceAdd, Nat.reduceSub, List.replicate_succ, List.replicate_zero, Option.bind_some, String.reduceBEq, Int.reduceBEq, Bool.or_self, if_true, if_false, Bool.false_eq_true, Bool.not_true, Bool.not_false, true_and, and_true, decide_true, decide_false, Option.map_some, M.is_non_int, M.is_non_bool, M.is_non_str, M.is_non_tuple, M.is_non_list, M.is_non_dict, M.is_bl_int, M.is_bl_bool, M.is_bl_str, M.is_bl_tuple, M.is_bl_list, M.is_bl_dict, M.is_int_int, M.is_int_bool, M.is_int_str, M.is_int_tuple, M.is_int_list, M.is_int_dict, M.is_str_int, M.is_str_bool, M.is_str_str, M.is_str_tuple, M.is_str_list, M.is_str_dict, M.is_tup_int, M.is_tup_bool, M.is_tup_str, M.is_tup_tuple, M.is_tup_list, M.is_tup_dict, M.is_lst_int, M.is_lst_bool, M.is_lst_str, M.is_lst_tuple, M.is_lst_list, M.is_lst_dict, M.isn_non, M.isn_bl, M.isn_int, M.isn_str, M.isn_tup, M.isn_lst, M.str_beq, M.f_non, M.f_bl, M.f_int, M.f_str, M.fe_str, M.fe_int, M.fe_si, M.fe_is, M.in_tup, M.in_lst, M.nin_tup, M.nin_lst, M.at_0, M.at_1, M.at_2, M.at_3, M.eq_int, M.ne_int, M.eq_bl, M.eq_nil, M.eq_str, M.ne_str, List.all_cons, List.all_nil, List.any_cons, List.any_nil, Bool.and_self, Bool.or_false, Bool.false_or, Bool.or_true, Bool.true_or, Bool.and_true, Bool.true_and, Bool.and_false, Bool.false_and, beq_self_eq_true, bne_self_eq_false, M.kCe, M.kCt, M.kForT_nx, M.kForT_ct, M.kForT_bk, M.kForT_rt, M.cut_1, M.all_1, M.all_2, M.any_1, M.any_2, M.sum_1, M.sum_2, M.all_map, M.any_map, M.sum_map, M.ok_eJs, M.ok_jsN, M.ok_jsC, M.kJs, ne_nil, c, f2]
      refine ok_rapp (n := t.length + 2 + 1) rfl (sd_get.trans tl_g2) ?_
      have ah : oAdd (.tup [.str x]) (p2 p) = some (hD (x, p)) := v_addT (show (1 : Nat) + 2 ≤ sizeLine by decide)
      simp only [M.ok_ok, M.ok_no, M.oko_some, M.ok_eC, M.ok_eV0, M.ok_eVs, M.ok_e1, M.k1, M.ok_e2, M.k2a, M.k2, M.ok_evs0, M.ok_evs, M.kA, M.ok_eTup, M.ok_eLst, M.ok_eB, M.ok_eCall, M.kTup, M.kLst, M.kB, M.kCall, M.ok_eIf, M.kIfE, M.ok_eAnd, M.kAnd, M.ok_eOr, M.kOr, M.ok_eNot, M.kNotE, M.ok_eChain, M.kCh, M.kCh2, M.ok_tOfE, M.kTo, M.ok_tTru, M.kTru, M.ok_tAnd, M.ok_tOr, M.ok_tNot, M.kTAnd, M.kTOr, M.kTNot, M.ok_tYes, M.ok_pNo, M.ok_pSome, M.kPs, M.ok_eCut, M.kCut, M.kCut1, M.kCut2, M.ok_eDGet, M.kDg, M.kDg2, M.ok_sSeq, M.kSeq_nx, M.kSeq_rt, M.kSeq_bk, M.kSeq_ct, M.ok_sSet, M.kSet, M.ok_sAsg, M.kAsg, M.ok_sPar, M.kPar, M.ok_sDrop, M.kDrop, M.ok_sRet, M.kRet, M.ok_sRetN, M.ok_sNext, M.ok_sBrk, M.ok_sCnt, M.ok_sIf, M.kIf, M.kAug, M.kApp, M.ok_sFor, M.kFor, M.ok_fnM, M.kFn_rt, M.kFn_nx, M.ok_iS, M.kIS_lst, M.kIS_tup, M.ok_iR1, M.kR1, M.ok_iR2, M.kR2, M.ok_eLstRg, M.ok_eTupRg, M.kRg, M.ok_rg1, M.kRg1, M.ok_rg2, M.kRg2, M.kRg2b, M.ok_eM1, M.kM1, M.kM1b, M.ok_eComp, M.kComp, M.kComp1, M.ok_eComp2, M.kCompC, M.kCompB, M.ok_eDisp, M.kDisp, M.ok_sAug1, M.ok_sApp1, M.kApp1, M.kIt_nx, M.kIt_ct, M.kIt_bk, M.kIt_rt, M.v_sub, M.v_addI, M.v_addA, M.v_subA, M.v_lt, M.v_le, M.v_gt, M.v_ge, M.v_int, M.v_lenL, M.v_lenT, M.v_lenZ, M.v_abs, M.v_max, M.v_min, M.v_neg, M.v_ixL, M.v_ixT, M.v_ixZ, M.v_cutL, M.v_cutT, M.v_tupL, M.v_tupT, M.v_lstL, M.v_lstT, M.tr_bl, M.tr_int, M.tr_lst, M.tr_tup, M.tr_non, M.env0_go, M.g_N, M.g_T, M.g_sC, M.g_sN, M.wipe0, M.wipeS, M.ge_0, M.ge_S, List.set_cons_zero, List.set_cons_succ, List.map_cons, List.map_nil, List.cons_append, List.nil_append, List.length_cons, List.length_nil, Nat.reduceAdd, Nat.reduceSub, List.replicate_succ, List.replicate_zero, Option.bind_some, String.reduceBEq, Int.reduceBEq, Bool.or_self, if_true, if_false, Bool.false_eq_true, Bool.not_true, Bool.not_false, true_and, and_true, decide_true, decide_false, Option.map_some, M.is_non_int, M.is_non_bool, M.is_non_str, M.is_non_tuple, M.is_non_list, M.is_non_dict, M.is_bl_int, M.is_bl_bool, M.is_bl_str, M.is_bl_tuple, M.is_bl_list, M.is_bl_dict, M.is_int_int, M.is_int_bool, M.is_int_str, M.is_int_tuple, M.is_int_list, M.is_int_dict, M.is_str_int, M.is_str_bool, M.is_str_str, M.is_str_tuple, M.is_str_list, M.is_str_dict, M.is_tup_int, M.is_tup_bool, M.is_tup_str, M.is_tup_tuple, M.is_tup_list, M.is_tup_dict, M.is_lst_int, M.is_lst_bool, M.is_lst_str, M.is_lst_tuple, M.is_lst_list, M.is_lst_dict, M.isn_non, M.isn_bl, M.isn_int, M.isn_str, M.isn_tup, M.isn_lst, M.str_beq, M.f_non, M.f_bl, M.f_int, M.f_str, M.fe_str, M.fe_int, M.fe_si, M.fe_is, M.in_tup, M.in_lst, M.nin_tup, M.nin_lst, M.at_0, M.at_1, M.at_2, M.at_3, M.eq_int, M.ne_int, M.eq_bl, M.eq_nil, M.eq_str, M.ne_str, List.all_cons, List.all_nil, List.any_cons, List.any_nil, Bool.and_self, Bool.or_false, Bool.false_or, Bool.or_true, Bool.true_or, Bool.and_true, Bool.true_and, Bool.and_false, Bool.false_and, beq_self_eq_true, bne_self_eq_false, M.kCe, M.kCt, M.kForT_nx, M.kForT_ct, M.kForT_bk, M.kForT_rt, M.cut_1, M.all_1, M.all_2, M.any_1, M.any_2, M.sum_1, M.sum_2, M.all_map, M.any_map, M.sum_map, M.ok_eJs, M.ok_jsN, M.ok_jsC, M.kJs, f3, ah]
      have m1 : hs'.map hD ++ [hD (x, p)] = (hs' ++ [(x, p)]).map hD := by rw [List.map_append]; rfl
      refine ⟨hs'.map hD, sd_get.trans tl_g2, by rw [List.length_map]; omega, ?_⟩
      rw [m1, sd_set, tl_s2]
      exact ⟨_, _, _, le2, _, hs' ++ [(x, p)], by omega, by rw [List.all_append, k2]; rfl, by rw [List.length_append]; simp only [List.length_cons, List.length_nil]; omega, by rw [List.length_append]; simp only [List.length_cons, List.length_nil]; omega, rfl, rfl⟩
  · rintro ρ s ⟨a', p4, p17, le', nn', hs', k1, k2, k3, k4, rfl, rfl⟩
    exact ⟨a', p4, p17, le', nn', hs', k1, by omega, rfl, rfl⟩
def ND5 (nx tk jn : Fn1) : MS := sFor (iR1 [(eCall nx [(eV 0), (eC (.int 3))])]) (gN 4) (sIf (tOfE (e2 oGt (e1 oLen (eV 11)) (eC (.int 1)))) (sSeq (sAsg (eCall tk [(eV 0), (eV 11)]) (gT (gsC (gN 15) (gsC (gN 11) gsN))))
    (sSeq (sAsg (eCall tk [(eV 0), (eV 11)]) (gT (gsC (gN 16) (gsC (gN 11) gsN))))
    (sDrop (eCall jn [(eV 0), (eV 15), (eV 16), (eV 14)])))) sNext)
theorem nd5_ok (h1 : Hnx nx xs) (h2 : Htk tk xs) (h3 : Hjn jn xs) (hle : le.length ≤ 1000) (hlk : lk.length ≤ 200) :
    Ok (ND5 nx tk jn (en t.length hd o4 o5 o6 o7 many ports size nu le o15 o16 o17 o18) (Sd xs a (tl t tn nn hs lk))) fun o s => ∃ (a' : Nat) (p4 p15 p16 : Option D) (le' : List (Int × Int)) (lk' : List L4), le'.length ≤ 1000 ∧ lk'.length ≤ 300 ∧ o = .nx (en t.length hd p4 o5 o6 o7 many ports size nu le' p15 p16 o17 o18) ∧ s = Sd xs a' (tl t tn nn hs lk') := by
  have sl : sizeLine = 16777216 := rfl
  obtain ⟨n1, q1, f1⟩ := nx_nat h1 a (tl t tn nn hs lk) 3 (by decide)
  have f1 : nx [.ref 0, .int 3] (Sd xs a (tl t tn nn hs lk)) = .ok (.int n1) (Sd xs (a + 1) (tl t tn nn hs lk)) := f1
  unfold ND5 en
  simp only [M.ok_ok, M.ok_no, M.oko_some, M.ok_eC, M.ok_eV0, M.ok_eVs, M.ok_e1, M.k1, M.ok_e2, M.k2a, M.k2, M.ok_evs0, M.ok_evs, M.kA, M.ok_eTup, M.ok_eLst, M.ok_eB, M.ok_eCall, M.kTup, M.kLst, M.kB, M.kCall, M.ok_eIf, M.kIfE, M.ok_eAnd, M.kAnd, M.ok_eOr, M.kOr, M.ok_eNot, M.kNotE, M.ok_eChain, M.kCh, M.kCh2, M.ok_tOfE, M.kTo, M.ok_tTru, M.kTru, M.ok_tAnd, M.ok_tOr, M.ok_tNot, M.kTAnd, M.kTOr, M.kTNot, M.ok_tYes, M.ok_pNo, M.ok_pSome, M.kPs, M.ok_eCut, M.kCut, M.kCut1, M.kCut2, M.ok_eDGet, M.kDg, M.kDg2, M.ok_sSeq, M.kSeq_nx, M.kSeq_rt, M.kSeq_bk, M.kSeq_ct, M.ok_sSet, M.kSet, M.ok_sAsg, M.kAsg, M.ok_sPar, M.kPar, M.ok_sDrop, M.kDrop, M.ok_sRet, M.kRet, M.ok_sRetN, M.ok_sNext, M.ok_sBrk, M.ok_sCnt, M.ok_sIf, M.kIf, M.kAug, M.kApp, M.ok_sFor, M.kFor, M.ok_fnM, M.kFn_rt, M.kFn_nx, M.ok_iS, M.kIS_lst, M.kIS_tup, M.ok_iR1, M.kR1, M.ok_iR2, M.kR2, M.ok_eLstRg, M.ok_eTupRg, M.kRg, M.ok_rg1, M.kRg1, M.ok_rg2, M.kRg2, M.kRg2b, M.ok_eM1, M.kM1, M.kM1b, M.ok_eComp, M.kComp, M.kComp1, M.ok_eComp2, M.kCompC, M.kCompB, M.ok_eDisp, M.kDisp, M.ok_sAug1, M.ok_sApp1, M.kApp1, M.kIt_nx, M.kIt_ct, M.kIt_bk, M.kIt_rt, M.v_sub, M.v_addI, M.v_addA, M.v_subA, M.v_lt, M.v_le, M.v_gt, M.v_ge, M.v_int, M.v_lenL, M.v_lenT, M.v_lenZ, M.v_abs, M.v_max, M.v_min, M.v_neg, M.v_ixL, M.v_ixT, M.v_ixZ, M.v_cutL, M.v_cutT, M.v_tupL, M.v_tupT, M.v_lstL, M.v_lstT, M.tr_bl, M.tr_int, M.tr_lst, M.tr_tup, M.tr_non, M.env0_go, M.g_N, M.g_T, M.g_sC, M.g_sN, M.wipe0, M.wipeS, M.ge_0, M.ge_S, List.set_cons_zero, List.set_cons_succ, List.map_cons, List.map_nil, List.cons_append, List.nil_append, List.length_cons, List.length_nil, Nat.reduceAdd, Nat.reduceSub, List.replicate_succ, List.replicate_zero, Option.bind_some, String.reduceBEq, Int.reduceBEq, Bool.or_self, if_true, if_false, Bool.false_eq_true, Bool.not_true, Bool.not_false, true_and, and_true, decide_true, decide_false, Option.map_some, M.is_non_int, M.is_non_bool, M.is_non_str, M.is_non_tuple, M.is_non_list, M.is_non_dict, M.is_bl_int, M.is_bl_bool, M.is_bl_str, M.is_bl_tuple, M.is_bl_list, M.is_bl_dict, M.is_int_int, M.is_int_bool, M.is_int_str, M.is_int_tuple, M.is_int_list, M.is_int_dict, M.is_str_int, M.is_str_bool, M.is_str_str, M.is_str_tuple, M.is_str_list, M.is_str_dict, M.is_tup_int, M.is_tup_bool, M.is_tup_str, M.is_tup_tuple, M.is_tup_list, M.is_tup_dict, M.is_lst_int, M.is_lst_bool, M.is_lst_str, M.is_lst_tuple, M.is_lst_list, M.is_lst_dict, M.isn_non, M.isn_bl, M.isn_int, M.isn_str, M.isn_tup, M.isn_lst, M.str_beq, M.f_non, M.f_bl, M.f_int, M.f_str, M.fe_str, M.fe_int, M.fe_si, M.fe_is, M.in_tup, M.in_lst, M.nin_tup, M.nin_lst, M.at_0, M.at_1, M.at_2, M.at_3, M.eq_int, M.ne_int, M.eq_bl, M.eq_nil, M.eq_str, M.ne_str, List.all_cons, List.all_nil, List.any_cons, List.any_nil, Bool.and_self, Bool.or_false, Bool.false_or, Bool.or_true, Bool.true_or, Bool.and_true, Bool.true_and, Bool.and_false, Bool.false_and, beq_self_eq_true, bne_self_eq_false, M.ok_comp0, M.ok_compS, M.kCe, M.kCt, M.forD_nil, M.forD_cons, M.kForT_nx, M.kForT_ct, M.kForT_bk, M.kForT_rt, M.cut_1, M.all_1, M.all_2, M.any_1, M.any_2, M.sum_1, M.sum_2, M.all_map, M.any_map, M.sum_map, M.ok_eJs, M.ok_jsN, M.ok_jsC, M.kJs, f1]
  refine ⟨by omega, ?_⟩
  rw [Int.toNat_natCast]
  refine for_rng (fun i ρ s => ∃ (a' : Nat) (p4 p15 p16 : Option D) (le' : List (Int × Int)) (lk' : List L4), le'.length ≤ 1000 ∧ lk'.length ≤ 200 + 2 * i ∧ ρ = en t.length hd p4 o5 o6 o7 many ports size nu le' p15 p16 o17 o18 ∧ s = Sd xs a' (tl t tn nn hs lk')) ⟨_, _, _, _, le, lk, hle, hlk, rfl, rfl⟩ ?_ ?_
  · rintro i ρ s hi ⟨a', p4, p15, p16, le', lk', k1, k2, rfl, rfl⟩
    unfold en
    by_cases c : (1 : Int) < (le'.map p2).length
    · have c' : 1 < le'.length := by rw [List.length_map] at c; omega
      obtain ⟨p, le2, g1, f2⟩ := take_le h2 a' (tl t tn nn hs lk') (by intro z; subst z; simp at c') k1
      obtain ⟨q, le3, g2, f3⟩ := take_le h2 (a' + 1) (tl t tn nn hs lk') (le := le2) (by intro z; subst z; simp at g1; omega) (by omega)
      obtain ⟨v, a2, lk2, f4, g4⟩ := h3 (a' + 1 + 1) (t.length + 3) (tl t tn nn hs lk') p q lk' tl_g3 (by omega)
      rw [tl_s3] at f4
      simp only [M.ok_ok, M.ok_no, M.oko_some, M.ok_eC, M.ok_eV0, M.ok_eVs, M.ok_e1, M.k1, M.ok_e2, M.k2a, M.k2, M.ok_evs0, M.ok_evs, M.kA, M.ok_eTup, M.ok_eLst, M.ok_eB, M.ok_eCall, M.kTup, M.kLst, M.kB, M.kCall, M.ok_eIf, M.kIfE, M.ok_eAnd, M.kAnd, M.ok_eOr, M.kOr, M.ok_eNot, M.kNotE, M.ok_eChain, M.kCh, M.kCh2, M.ok_tOfE, M.kTo, M.ok_tTru, M.kTru, M.ok_tAnd, M.ok_tOr, M.ok_tNot, M.kTAnd, M.kTOr, M.kTNot, M.ok_tYes, M.ok_pNo, M.ok_pSome, M.kPs, M.ok_eCut, M.kCut, M.kCut1, M.kCut2, M.ok_eDGet, M.kDg, M.kDg2, M.ok_sSeq, M.kSeq_nx, M.kSeq_rt, M.kSeq_bk, M.kSeq_ct, M.ok_sSet, M.kSet, M.ok_sAsg, M.kAsg, M.ok_sPar, M.kPar, M.ok_sDrop, M.kDrop, M.ok_sRet, M.kRet, M.ok_sRetN, M.ok_sNext, M.ok_sBrk, M.ok_sCnt, M.ok_sIf, M.kIf, M.kAug, M.kApp, M.ok_sFor, M.kFor, M.ok_fnM, M.kFn_rt, M.kFn_nx, M.ok_iS, M.kIS_lst, M.kIS_tup, M.ok_iR1, M.kR1, M.ok_iR2, M.kR2, M.ok_eLstRg, M.ok_eTupRg, M.kRg, M.ok_rg1, M.kRg1, M.ok_rg2, M.kRg2, M.kRg2b, M.ok_eM1, M.kM1, M.kM1b, M.ok_eComp, M.kComp, M.kComp1, M.ok_eComp2, M.kCompC, M.kCompB, M.ok_eDisp, M.kDisp, M.ok_sAug1, M.ok_sApp1, M.kApp1, M.kIt_nx, M.kIt_ct, M.kIt_bk, M.kIt_rt, M.v_sub, M.v_addI, M.v_addA, M.v_subA, M.v_lt, M.v_le, M.v_gt, M.v_ge, M.v_int, M.v_lenL, M.v_lenT, M.v_lenZ, M.v_abs, M.v_max, M.v_min, M.v_neg, M.v_ixL, M.v_ixT, M.v_ixZ, M.v_cutL, M.v_cutT, M.v_tupL, M.v_tupT, M.v_lstL, M.v_lstT, M.tr_bl, M.tr_int, M.tr_lst, M.tr_tup, M.tr_non, M.env0_go, M.g_N, M.g_T, M.g_sC, M.g_sN, M.wipe0, M.wipeS, M.ge_0, M.ge_S, List.set_cons_zero, List.set_cons_succ, List.map_cons, List.map_nil, List.cons_append, List.nil_append, List.length_cons, List.length_nil, Nat.reduceAdd, Nat.reduceSub, List.replicate_succ, List.replicate_zero, Option.bind_some, String.reduceBEq, Int.reduceBEq, Bool.or_self, if_true, if_false, Bool.false_eq_true, Bool.not_true, Bool.not_false, true_and, and_true, decide_true, decide_false, Option.map_some, M.is_non_int, M.is_non_bool, M.is_non_str, M.is_non_tuple, M.is_non_list, M.is_non_dict, M.is_bl_int, M.is_bl_bool, M.is_bl_str, M.is_bl_tuple, M.is_bl_list, M.is_bl_dict, M.is_int_int, M.is_int_bool, M.is_int_str, M.is_int_tuple, M.is_int_list, M.is_int_dict, M.is_str_int, M.is_str_bool, M.is_str_str, M.is_str_tuple, M.is_str_list, M.is_str_dict, M.is_tup_int, M.is_tup_bool, M.is_tup_str, M.is_tup_tuple, M.is_tup_list, M.is_tup_dict, M.is_lst_int, M.is_lst_bool, M.is_lst_str, M.is_lst_tuple, M.is_lst_list, M.is_lst_dict, M.isn_non, M.isn_bl, M.isn_int, M.isn_str, M.isn_tup, M.isn_lst, M.str_beq, M.f_non, M.f_bl, M.f_int, M.f_str, M.fe_str, M.fe_int, M.fe_si, M.fe_is, M.in_tup, M.in_lst, M.nin_tup, M.nin_lst, M.at_0, M.at_1, M.at_2, M.at_3, M.eq_int, M.ne_int, M.eq_bl, M.eq_nil, M.eq_str, M.ne_str, List.all_cons, List.all_nil, List.any_cons, List.any_nil, Bool.and_self, Bool.or_false, Bool.false_or, Bool.or_true, Bool.true_or, Bool.and_true, Bool.true_and, Bool.and_false, Bool.false_and, beq_self_eq_true, bne_self_eq_false, M.kCe, M.kCt, M.kForT_nx, M.kForT_ct, M.kForT_bk, M.kForT_rt, M.cut_1, M.all_1, M.all_2, M.any_1, M.any_2, M.sum_1, M.sum_2, M.all_map, M.any_map, M.sum_map, M.ok_eJs, M.ok_jsN, M.ok_jsC, M.kJs, c, f2, f3, f4]
      exact ⟨_, _, _, _, le3, lk2, by omega, by omega, rfl, rfl⟩
    · simp only [M.ok_ok, M.ok_no, M.oko_some, M.ok_eC, M.ok_eV0, M.ok_eVs, M.ok_e1, M.k1, M.ok_e2, M.k2a, M.k2, M.ok_evs0, M.ok_evs, M.kA, M.ok_eTup, M.ok_eLst, M.ok_eB, M.ok_eCall, M.kTup, M.kLst, M.kB, M.kCall, M.ok_eIf, M.kIfE, M.ok_eAnd, M.kAnd, M.ok_eOr, M.kOr, M.ok_eNot, M.kNotE, M.ok_eChain, M.kCh, M.kCh2, M.ok_tOfE, M.kTo, M.ok_tTru, M.kTru, M.ok_tAnd, M.ok_tOr, M.ok_tNot, M.kTAnd, M.kTOr, M.kTNot, M.ok_tYes, M.ok_pNo, M.ok_pSome, M.kPs, M.ok_eCut, M.kCut, M.kCut1, M.kCut2, M.ok_eDGet, M.kDg, M.kDg2, M.ok_sSeq, M.kSeq_nx, M.kSeq_rt, M.kSeq_bk, M.kSeq_ct, M.ok_sSet, M.kSet, M.ok_sAsg, M.kAsg, M.ok_sPar, M.kPar, M.ok_sDrop, M.kDrop, M.ok_sRet, M.kRet, M.ok_sRetN, M.ok_sNext, M.ok_sBrk, M.ok_sCnt, M.ok_sIf, M.kIf, M.kAug, M.kApp, M.ok_sFor, M.kFor, M.ok_fnM, M.kFn_rt, M.kFn_nx, M.ok_iS, M.kIS_lst, M.kIS_tup, M.ok_iR1, M.kR1, M.ok_iR2, M.kR2, M.ok_eLstRg, M.ok_eTupRg, M.kRg, M.ok_rg1, M.kRg1, M.ok_rg2, M.kRg2, M.kRg2b, M.ok_eM1, M.kM1, M.kM1b, M.ok_eComp, M.kComp, M.kComp1, M.ok_eComp2, M.kCompC, M.kCompB, M.ok_eDisp, M.kDisp, M.ok_sAug1, M.ok_sApp1, M.kApp1, M.kIt_nx, M.kIt_ct, M.kIt_bk, M.kIt_rt, M.v_sub, M.v_addI, M.v_addA, M.v_subA, M.v_lt, M.v_le, M.v_gt, M.v_ge, M.v_int, M.v_lenL, M.v_lenT, M.v_lenZ, M.v_abs, M.v_max, M.v_min, M.v_neg, M.v_ixL, M.v_ixT, M.v_ixZ, M.v_cutL, M.v_cutT, M.v_tupL, M.v_tupT, M.v_lstL, M.v_lstT, M.tr_bl, M.tr_int, M.tr_lst, M.tr_tup, M.tr_non, M.env0_go, M.g_N, M.g_T, M.g_sC, M.g_sN, M.wipe0, M.wipeS, M.ge_0, M.ge_S, List.set_cons_zero, List.set_cons_succ, List.map_cons, List.map_nil, List.cons_append, List.nil_append, List.length_cons, List.length_nil, Nat.reduceAdd, Nat.reduceSub, List.replicate_succ, List.replicate_zero, Option.bind_some, String.reduceBEq, Int.reduceBEq, Bool.or_self, if_true, if_false, Bool.false_eq_true, Bool.not_true, Bool.not_false, true_and, and_true, decide_true, decide_false, Option.map_some, M.is_non_int, M.is_non_bool, M.is_non_str, M.is_non_tuple, M.is_non_list, M.is_non_dict, M.is_bl_int, M.is_bl_bool, M.is_bl_str, M.is_bl_tuple, M.is_bl_list, M.is_bl_dict, M.is_int_int, M.is_int_bool, M.is_int_str, M.is_int_tuple, M.is_int_list, M.is_int_dict, M.is_str_int, M.is_str_bool, M.is_str_str, M.is_str_tuple, M.is_str_list, M.is_str_dict, M.is_tup_int, M.is_tup_bool, M.is_tup_str, M.is_tup_tuple, M.is_tup_list, M.is_tup_dict, M.is_lst_int, M.is_lst_bool, M.is_lst_str, M.is_lst_tuple, M.is_lst_list, M.is_lst_dict, M.isn_non, M.isn_bl, M.isn_int, M.isn_str, M.isn_tup, M.isn_lst, M.str_beq, M.f_non, M.f_bl, M.f_int, M.f_str, M.fe_str, M.fe_int, M.fe_si, M.fe_is, M.in_tup, M.in_lst, M.nin_tup, M.nin_lst, M.at_0, M.at_1, M.at_2, M.at_3, M.eq_int, M.ne_int, M.eq_bl, M.eq_nil, M.eq_str, M.ne_str, List.all_cons, List.all_nil, List.any_cons, List.any_nil, Bool.and_self, Bool.or_false, Bool.false_or, Bool.or_true, Bool.true_or, Bool.and_true, Bool.true_and, Bool.and_false, Bool.false_and, beq_self_eq_true, bne_self_eq_false, M.kCe, M.kCt, M.kForT_nx, M.kForT_ct, M.kForT_bk, M.kForT_rt, M.cut_1, M.all_1, M.all_2, M.any_1, M.any_2, M.sum_1, M.sum_2, M.all_map, M.any_map, M.sum_map, M.ok_eJs, M.ok_jsN, M.ok_jsC, M.kJs, c]
      exact ⟨_, _, _, _, le', lk', k1, by omega, rfl, rfl⟩
  · rintro ρ s ⟨a', p4, p15, p16, le', lk', k1, k2, rfl, rfl⟩
    exact ⟨a', p4, p15, p16, le', lk', k1, by omega, rfl, rfl⟩
/-! the switches -/
def ND6 (nx : Fn1) : MS := sFor (iS (eV 10)) (gN 5) (sApp 7 (eTup [(eV 5), (e1 oTuple (eComp (iR1 [(eV 9)]) (gN 18) (tOrM (tOfE (e2 oNotIn (eTup [(eV 5), (eV 18)]) (eV 11))) (tOfE (e2 oEq (eCall nx [(eV 0), (eC (.int 2))]) (eC (.int 0))))) (eV 18) [18]))]))
theorem nin_p2 {p : Int × Int} {le : List (Int × Int)} : oNotIn (.tup [.int p.1, .int p.2]) (.lst (le.map p2)) = some (.bl (!decide (p ∈ le))) := (Enc.ninL E2 (by decide) p le).trans (congrArg (fun b => some (D.bl !b)) (decide_eq_decide.mpr Iff.rfl))
theorem nd6_ok (h1 : Hnx nx xs) (hp : ports ≤ 100) (hnu : nu.length ≤ 100) {t0 : Sto} :
    Ok (ND6 nx (en n hd o4 o5 o6 (some (.lst [])) many ports size nu le o15 o16 o17 o18) (Sd xs a t0)) fun o s => ∃ (a' : Nat) (p5 p18 : Option D) (ws : List (Int × D)), ws.length ≤ 100 ∧ o = .nx (en n hd o4 p5 o6 (some (.lst (ws.map sw))) many ports size nu le o15 o16 o17 p18) ∧ s = Sd xs a' t0 := by
  have sl : sizeLine = 16777216 := rfl
  unfold ND6 en
  simp only [M.ok_ok, M.ok_no, M.oko_some, M.ok_eC, M.ok_eV0, M.ok_eVs, M.ok_e1, M.k1, M.ok_e2, M.k2a, M.k2, M.ok_evs0, M.ok_evs, M.kA, M.ok_eTup, M.ok_eLst, M.ok_eB, M.ok_eCall, M.kTup, M.kLst, M.kB, M.kCall, M.ok_eIf, M.kIfE, M.ok_eAnd, M.kAnd, M.ok_eOr, M.kOr, M.ok_eNot, M.kNotE, M.ok_eChain, M.kCh, M.kCh2, M.ok_tOfE, M.kTo, M.ok_tTru, M.kTru, M.ok_tAnd, M.ok_tOr, M.ok_tNot, M.kTAnd, M.kTOr, M.kTNot, M.ok_tYes, M.ok_pNo, M.ok_pSome, M.kPs, M.ok_eCut, M.kCut, M.kCut1, M.kCut2, M.ok_eDGet, M.kDg, M.kDg2, M.ok_sSeq, M.kSeq_nx, M.kSeq_rt, M.kSeq_bk, M.kSeq_ct, M.ok_sSet, M.kSet, M.ok_sAsg, M.kAsg, M.ok_sPar, M.kPar, M.ok_sDrop, M.kDrop, M.ok_sRet, M.kRet, M.ok_sRetN, M.ok_sNext, M.ok_sBrk, M.ok_sCnt, M.ok_sIf, M.kIf, M.kAug, M.kApp, M.ok_sFor, M.kFor, M.ok_fnM, M.kFn_rt, M.kFn_nx, M.ok_iS, M.kIS_lst, M.kIS_tup, M.ok_iR1, M.kR1, M.ok_iR2, M.kR2, M.ok_eLstRg, M.ok_eTupRg, M.kRg, M.ok_rg1, M.kRg1, M.ok_rg2, M.kRg2, M.kRg2b, M.ok_eM1, M.kM1, M.kM1b, M.ok_eComp, M.kComp, M.kComp1, M.ok_eComp2, M.kCompC, M.kCompB, M.ok_eDisp, M.kDisp, M.ok_sAug1, M.ok_sApp1, M.kApp1, M.kIt_nx, M.kIt_ct, M.kIt_bk, M.kIt_rt, M.v_sub, M.v_addI, M.v_addA, M.v_subA, M.v_lt, M.v_le, M.v_gt, M.v_ge, M.v_int, M.v_lenL, M.v_lenT, M.v_lenZ, M.v_abs, M.v_max, M.v_min, M.v_neg, M.v_ixL, M.v_ixT, M.v_ixZ, M.v_cutL, M.v_cutT, M.v_tupL, M.v_tupT, M.v_lstL, M.v_lstT, M.tr_bl, M.tr_int, M.tr_lst, M.tr_tup, M.tr_non, M.env0_go, M.g_N, M.g_T, M.g_sC, M.g_sN, M.wipe0, M.wipeS, M.ge_0, M.ge_S, List.set_cons_zero, List.set_cons_succ, List.map_cons, List.map_nil, List.cons_append, List.nil_append, List.length_cons, List.length_nil, Nat.reduceAdd, Nat.reduceSub, List.replicate_succ, List.replicate_zero, Option.bind_some, String.reduceBEq, Int.reduceBEq, Bool.or_self, if_true, if_false, Bool.false_eq_true, Bool.not_true, Bool.not_false, true_and, and_true, decide_true, decide_false, Option.map_some, M.is_non_int, M.is_non_bool, M.is_non_str, M.is_non_tuple, M.is_non_list, M.is_non_dict, M.is_bl_int, M.is_bl_bool, M.is_bl_str, M.is_bl_tuple, M.is_bl_list, M.is_bl_dict, M.is_int_int, M.is_int_bool, M.is_int_str, M.is_int_tuple, M.is_int_list, M.is_int_dict, M.is_str_int, M.is_str_bool, M.is_str_str, M.is_str_tuple, M.is_str_list, M.is_str_dict, M.is_tup_int, M.is_tup_bool, M.is_tup_str, M.is_tup_tuple, M.is_tup_list, M.is_tup_dict, M.is_lst_int, M.is_lst_bool, M.is_lst_str, M.is_lst_tuple, M.is_lst_list, M.is_lst_dict, M.isn_non, M.isn_bl, M.isn_int, M.isn_str, M.isn_tup, M.isn_lst, M.str_beq, M.f_non, M.f_bl, M.f_int, M.f_str, M.fe_str, M.fe_int, M.fe_si, M.fe_is, M.in_tup, M.in_lst, M.nin_tup, M.nin_lst, M.at_0, M.at_1, M.at_2, M.at_3, M.eq_int, M.ne_int, M.eq_bl, M.eq_nil, M.eq_str, M.ne_str, List.all_cons, List.all_nil, List.any_cons, List.any_nil, Bool.and_self, Bool.or_false, Bool.false_or, Bool.or_true, Bool.true_or, Bool.and_true, Bool.true_and, Bool.and_false, Bool.false_and, beq_self_eq_true, bne_self_eq_false, M.ok_comp0, M.ok_compS, M.kCe, M.kCt, M.forD_nil, M.forD_cons, M.kForT_nx, M.kForT_ct, M.kForT_bk, M.kForT_rt, M.cut_1, M.all_1, M.all_2, M.any_1, M.any_2, M.sum_1, M.sum_2, M.all_map, M.any_map, M.sum_map, M.ok_eJs, M.ok_jsN, M.ok_jsC, M.kJs]
  refine for_it (fun ds ρ s => ∃ (done rest : List Int) (a' : Nat) (p5 p18 : Option D) (ws : List (Int × D)), ds = rest.map .int ∧ nu = done ++ rest ∧ ws.length ≤ done.length ∧ ρ = en n hd o4 p5 o6 (some (.lst (ws.map sw))) many ports size nu le o15 o16 o17 p18 ∧ s = Sd xs a' t0) ⟨[], nu, _, _, _, [], rfl, rfl, Nat.le_refl _, rfl, rfl⟩ ?_ ?_
  · rintro d ds ρ s ⟨done, rest, a', p5, p18, ws, e1, e2, h3, rfl, rfl⟩
    cases rest with
    | nil => cases e1
    | cons b rest =>
      rw [List.map_cons] at e1
      injection e1 with e1 e3
      subst e1 e3
      have hll : done.length + 1 ≤ 100 := by rw [e2, List.length_append, List.length_cons] at hnu; omega
      unfold en
      simp only [M.ok_ok, M.ok_no, M.oko_some, M.ok_eC, M.ok_eV0, M.ok_eVs, M.ok_e1, M.k1, M.ok_e2, M.k2a, M.k2, M.ok_evs0, M.ok_evs, M.kA, M.ok_eTup, M.ok_eLst, M.ok_eB, M.ok_eCall, M.kTup, M.kLst, M.kB, M.kCall, M.ok_eIf, M.kIfE, M.ok_eAnd, M.kAnd, M.ok_eOr, M.kOr, M.ok_eNot, M.kNotE, M.ok_eChain, M.kCh, M.kCh2, M.ok_tOfE, M.kTo, M.ok_tTru, M.kTru, M.ok_tAnd, M.ok_tOr, M.ok_tNot, M.kTAnd, M.kTOr, M.kTNot, M.ok_tYes, M.ok_pNo, M.ok_pSome, M.kPs, M.ok_eCut, M.kCut, M.kCut1, M.kCut2, M.ok_eDGet, M.kDg, M.kDg2, M.ok_sSeq, M.kSeq_nx, M.kSeq_rt, M.kSeq_bk, M.kSeq_ct, M.ok_sSet, M.kSet, M.ok_sAsg, M.kAsg, M.ok_sPar, M.kPar, M.ok_sDrop, M.kDrop, M.ok_sRet, M.kRet, M.ok_sRetN, M.ok_sNext, M.ok_sBrk, M.ok_sCnt, M.ok_sIf, M.kIf, M.kAug, M.kApp, M.ok_sFor, M.kFor, M.ok_fnM, M.kFn_rt, M.kFn_nx, M.ok_iS, M.kIS_lst, M.kIS_tup, M.ok_iR1, M.kR1, M.ok_iR2, M.kR2, M.ok_eLstRg, M.ok_eTupRg, M.kRg, M.ok_rg1, M.kRg1, M.ok_rg2, M.kRg2, M.kRg2b, M.ok_eM1, M.kM1, M.kM1b, M.ok_eComp, M.kComp, M.kComp1, M.ok_eComp2, M.kCompC, M.kCompB, M.ok_eDisp, M.kDisp, M.ok_sAug1, M.ok_sApp1, M.kApp1, M.kIt_nx, M.kIt_ct, M.kIt_bk, M.kIt_rt, M.v_sub, M.v_addI, M.v_addA, M.v_subA, M.v_lt, M.v_le, M.v_gt, M.v_ge, M.v_int, M.v_lenL, M.v_lenT, M.v_lenZ, M.v_abs, M.v_max, M.v_min, M.v_neg, M.v_ixL, M.v_ixT, M.v_ixZ, M.v_cutL, M.v_cutT, M.v_tupL, M.v_tupT, M.v_lstL, M.v_lstT, M.tr_bl, M.tr_int, M.tr_lst, M.tr_tup, M.tr_non, M.env0_go, M.g_N, M.g_T, M.g_sC, M.g_sN, M.wipe0, M.wipeS, M.ge_0, M.ge_S, List.set_cons_zero, List.set_cons_succ, List.map_cons, List.map_nil, List.cons_append, List.nil_append, List.length_cons, List.length_nil, Nat.reduceAdd, Nat.reduceSub, List.replicate_succ, List.replicate_zero, Option.bind_some, String.reduceBEq, Int.reduceBEq, Bool.or_self, if_true, if_false, Bool.false_eq_true, Bool.not_true, Bool.not_false, true_and, and_true, decide_true, decide_false, Option.map_some, M.is_non_int, M.is_non_bool, M.is_non_str, M.is_non_tuple, M.is_non_list, M.is_non_dict, M.is_bl_int, M.is_bl_bool, M.is_bl_str, M.is_bl_tuple, M.is_bl_list, M.is_bl_dict, M.is_int_int, M.is_int_bool, M.is_int_str, M.is_int_tuple, M.is_int_list, M.is_int_dict, M.is_str_int, M.is_str_bool, M.is_str_str, M.is_str_tuple, M.is_str_list, M.is_str_dict, M.is_tup_int, M.is_tup_bool, M.is_tup_str, M.is_tup_tuple, M.is_tup_list, M.is_tup_dict, M.is_lst_int, M.is_lst_bool, M.is_lst_str, M.is_lst_tuple, M.is_lst_list, M.is_lst_dict, M.isn_non, M.isn_bl, M.isn_int, M.isn_str, M.isn_tup, M.isn_lst, M.str_beq, M.f_non, M.f_bl, M.f_int, M.f_str, M.fe_str, M.fe_int, M.fe_si, M.fe_is, M.in_tup, M.in_lst, M.nin_tup, M.nin_lst, M.at_0, M.at_1, M.at_2, M.at_3, M.eq_int, M.ne_int, M.eq_bl, M.eq_nil, M.eq_str, M.ne_str, List.all_cons, List.all_nil, List.any_cons, List.any_nil, Bool.and_self, Bool.or_false, Bool.false_or, Bool.or_true, Bool.true_or, Bool.and_true, Bool.true_and, Bool.and_false, Bool.false_and, beq_self_eq_true, bne_self_eq_false, M.ok_comp0, M.ok_compS, M.kCe, M.kCt, M.forD_nil, M.forD_cons, M.kForT_nx, M.kForT_ct, M.kForT_bk, M.kForT_rt, M.cut_1, M.all_1, M.all_2, M.any_1, M.any_2, M.sum_1, M.sum_2, M.all_map, M.any_map, M.sum_map, M.ok_eJs, M.ok_jsN, M.ok_jsC, M.kJs]
      refine ⟨by omega, ?_⟩
      rw [Int.toNat_natCast]
      refine Ok.mono (compT_inv0 (fun _ s => ∃ a', s = Sd xs a' t0) ⟨a', rfl⟩ ?_) ?_
      · rintro d hd acc s ⟨a2, rfl⟩
        unfold rngD at hd
        obtain ⟨i, hi, rfl⟩ := List.mem_map.mp hd
        obtain ⟨n1, q1, f1⟩ := nx_nat h1 a2 t0 2 (by decide)
        have f1 : nx [.ref 0, .int 2] (Sd xs a2 t0) = .ok (.int n1) (Sd xs (a2 + 1) t0) := f1
        have ni : oNotIn (.tup [.int b, .int (0 + (i : Nat))]) (.lst (le.map p2)) = some (.bl (!decide ((b, 0 + ((i : Nat) : Int)) ∈ le))) := nin_p2 (p := (b, 0 + ((i : Nat) : Int)))
        by_cases c : (b, 0 + ((i : Nat) : Int)) ∈ le
        · by_cases c2 : ((n1 : Int) == 0) = true
          · simp only [M.ok_ok, M.ok_no, M.oko_some, M.ok_eC, M.ok_eV0, M.ok_eVs, M.ok_e1, M.k1, M.ok_e2, M.k2a, M.k2, M.ok_evs0, M.ok_evs, M.kA, M.ok_eTup, M.ok_eLst, M.ok_eB, M.ok_eCall, M.kTup, M.kLst, M.kB, M.kCall, M.ok_eIf, M.kIfE, M.ok_eAnd, M.kAnd, M.ok_eOr, M.kOr, M.ok_eNot, M.kNotE, M.ok_eChain, M.kCh, M.kCh2, M.ok_tOfE, M.kTo, M.ok_tTru, M.kTru, M.ok_tAnd, M.ok_tOr, M.ok_tNot, M.kTAnd, M.kTOr, M.kTNot, M.ok_tYes, M.ok_pNo, M.ok_pSome, M.kPs, M.ok_eCut, M.kCut, M.kCut1, M.kCut2, M.ok_eDGet, M.kDg, M.kDg2, M.ok_sSeq, M.kSeq_nx, M.kSeq_rt, M.kSeq_bk, M.kSeq_ct, M.ok_sSet, M.kSet, M.ok_sAsg, M.kAsg, M.ok_sPar, M.kPar, M.ok_sDrop, M.kDrop, M.ok_sRet, M.kRet, M.ok_sRetN, M.ok_sNext, M.ok_sBrk, M.ok_sCnt, M.ok_sIf, M.kIf, M.kAug, M.kApp, M.ok_sFor, M.kFor, M.ok_fnM, M.kFn_rt, M.kFn_nx, M.ok_iS, M.kIS_lst, M.kIS_tup, M.ok_iR1, M.kR1, M.ok_iR2, M.kR2, M.ok_eLstRg, M.ok_eTupRg, M.kRg, M.ok_rg1, M.kRg1, M.ok_rg2, M.kRg2, M.kRg2b, M.ok_eM1, M.kM1, M.kM1b, M.ok_eComp, M.kComp, M.kComp1, M.ok_eComp2, M.kCompC, M.kCompB, M.ok_eDisp, M.kDisp, M.ok_sAug1, M.ok_sApp1, M.kApp1, M.kIt_nx, M.kIt_ct, M.kIt_bk, M.kIt_rt, M.v_sub, M.v_addI, M.v_addA, M.v_subA, M.v_lt, M.v_le, M.v_gt, M.v_ge, M.v_int, M.v_lenL, M.v_lenT, M.v_lenZ, M.v_abs, M.v_max, M.v_min, M.v_neg, M.v_ixL, M.v_ixT, M.v_ixZ, M.v_cutL, M.v_cutT, M.v_tupL, M.v_tupT, M.v_lstL, M.v_lstT, M.tr_bl, M.tr_int, M.tr_lst, M.tr_tup, M.tr_non, M.env0_go, M.g_N, M.g_T, M.g_sC, M.g_sN, M.wipe0, M.wipeS, M.ge_0, M.ge_S, List.set_cons_zero, List.set_cons_succ, List.map_cons, List.map_nil, List.cons_append, List.nil_append, List.length_cons, List.length_nil, Nat.reduceAdd, Nat.reduceSub, List.replicate_succ, List.replicate_zero, Option.bind_some, String.reduceBEq, Int.reduceBEq, Bool.or_self, if_true, if_false, Bool.false_eq_true, Bool.not_true, Bool.not_false, true_and, and_true, decide_true, decide_false, Option.map_some, M.is_non_int, M.is_non_bool, M.is_non_str, M.is_non_tuple, M.is_non_list, M.is_non_dict, M.is_bl_int, M.is_bl_bool, M.is_bl_str, M.is_bl_tuple, M.is_bl_list, M.is_bl_dict, M.is_int_int, M.is_int_bool, M.is_int_str, M.is_int_tuple, M.is_int_list, M.is_int_dict, M.is_str_int, M.is_str_bool, M.is_str_str, M.is_str_tuple, M.is_str_list, M.is_str_dict, M.is_tup_int, M.is_tup_bool, M.is_tup_str, M.is_tup_tuple, M.is_tup_list, M.is_tup_dict, M.is_lst_int, M.is_lst_bool, M.is_lst_str, M.is_lst_tuple, M.is_lst_list, M.is_lst_dict, M.isn_non, M.isn_bl, M.isn_int, M.isn_str, M.isn_tup, M.isn_lst, M.str_beq, M.f_non, M.f_bl, M.f_int, M.f_str, M.fe_str, M.fe_int, M.fe_si, M.fe_is, M.in_tup, M.in_lst, M.nin_tup, M.nin_lst, M.at_0, M.at_1, M.at_2, M.at_3, M.eq_int, M.ne_int, M.eq_bl, M.eq_nil, M.eq_str, M.ne_str, List.all_cons, List.all_nil, List.any_cons, List.any_nil, Bool.and_self, Bool.or_false, Bool.false_or, Bool.or_true, Bool.true_or, Bool.and_true, Bool.true_and, Bool.and_false, Bool.false_and, beq_self_eq_true, bne_self_eq_false, M.kCe, M.kCt, M.kForT_nx, M.kForT_ct, M.kForT_bk, M.kForT_rt, M.cut_1, M.all_1, M.all_2, M.any_1, M.any_2, M.sum_1, M.sum_2, M.all_map, M.any_map, M.sum_map, M.ok_eJs, M.ok_jsN, M.ok_jsC, M.kJs, ni, c, f1, c2]
            exact ⟨_, rfl⟩
          · have c2 : ((n1 : Int) == 0) = false := by simpa using c2
            simp only [M.ok_ok, M.ok_no, M.oko_some, M.ok_eC, M.ok_eV0, M.ok_eVs, M.ok_e1, M.k1, M.ok_e2, M.k2a, M.k2, M.ok_evs0, M.ok_evs, M.kA, M.ok_eTup, M.ok_eLst, M.ok_eB, M.ok_eCall, M.kTup, M.kLst, M.kB, M.kCall, M.ok_eIf, M.kIfE, M.ok_eAnd, M.kAnd, M.ok_eOr, M.kOr, M.ok_eNot, M.kNotE, M.ok_eChain, M.kCh, M.kCh2, M.ok_tOfE, M.kTo, M.ok_tTru, M.kTru, M.ok_tAnd, M.ok_tOr, M.ok_tNot, M.kTAnd, M.kTOr, M.kTNot, M.ok_tYes, M.ok_pNo, M.ok_pSome, M.kPs, M.ok_eCut, M.kCut, M.kCut1, M.kCut2, M.ok_eDGet, M.kDg, M.kDg2, M.ok_sSeq, M.kSeq_nx, M.kSeq_rt, M.kSeq_bk, M.kSeq_ct, M.ok_sSet, M.kSet, M.ok_sAsg, M.kAsg, M.ok_sPar, M.kPar, M.ok_sDrop, M.kDrop, M.ok_sRet, M.kRet, M.ok_sRetN, M.ok_sNext, M.ok_sBrk, M.ok_sCnt, M.ok_sIf, M.kIf, M.kAug, M.kApp, M.ok_sFor, M.kFor, M.ok_fnM, M.kFn_rt, M.kFn_nx, M.ok_iS, M.kIS_lst, M.kIS_tup, M.ok_iR1, M.kR1, M.ok_iR2, M.kR2, M.ok_eLstRg, M.ok_eTupRg, M.kRg, M.ok_rg1, M.kRg1, M.ok_rg2, M.kRg2, M.kRg2b, M.ok_eM1, M.kM1, M.kM1b, M.ok_eComp, M.kComp, M.kComp1, M.ok_eComp2, M.kCompC, M.kCompB, M.ok_eDisp, M.kDisp, M.ok_sAug1, M.ok_sApp1, M.kApp1, M.kIt_nx, M.kIt_ct, M.kIt_bk, M.kIt_rt, M.v_sub, M.v_addI, M.v_addA, M.v_subA, M.v_lt, M.v_le, M.v_gt, M.v_ge, M.v_int, M.v_lenL, M.v_lenT, M.v_lenZ, M.v_abs, M.v_max, M.v_min, M.v_neg, M.v_ixL, M.v_ixT, M.v_ixZ, M.v_cutL, M.v_cutT, M.v_tupL, M.v_tupT, M.v_lstL, M.v_lstT, M.tr_bl, M.tr_int, M.tr_lst, M.tr_tup, M.tr_non, M.env0_go, M.g_N, M.g_T, M.g_sC, M.g_sN, M.wipe0, M.wipeS, M.ge_0, M.ge_S, List.set_cons_zero, List.set_cons_succ, List.map_cons, List.map_nil, List.cons_append, List.nil_append, List.length_cons, List.length_nil, Nat.reduceAdd, Nat.reduceSub, List.replicate_succ, List.replicate_zero, Option.bind_some, String.reduceBEq, Int.reduceBEq, Bool.or_self, if_true, if_false, Bool.false_eq_true, Bool.not_true, Bool.not_false, true_and, and_true, decide_true, decide_false, Option.map_some, M.is_non_int, M.is_non_bool, M.is_non_str, M.is_non_tuple, M.is_non_list, M.is_non_dict, M.is_bl_int, M.is_bl_bool, M.is_bl_str, M.is_bl_tuple, M.is_bl_list, M.is_bl_dict, M.is_int_int, M.is_int_bool, M.is_int_str, M.is_int_tuple, M.is_int_list, M.is_int_dict, M.is_str_int, M.is_str_bool, M.is_str_str, M.is_str_tuple, M.is_str_list, M.is_str_dict, M.is_tup_int, M.is_tup_bool, M.is_tup_str, M.is_tup_tuple, M.is_tup_list, M.is_tup_dict, M.is_lst_int, M.is_lst_bool, M.is_lst_str, M.is_lst_tuple, M.is_lst_list, M.is_lst_dict, M.isn_non, M.isn_bl, M.isn_int, M.isn_str, M.isn_tup, M.isn_lst, M.str_beq, M.f_non, M.f_bl, M.f_int, M.f_str, M.fe_str, M.fe_int, M.fe_si, M.fe_is, M.in_tup, M.in_lst, M.nin_tup, M.nin_lst, M.at_0, M.at_1, M.at_2, M.at_3, M.eq_int, M.ne_int, M.eq_bl, M.eq_nil, M.eq_str, M.ne_str, List.all_cons, List.all_nil, List.any_cons, List.any_nil, Bool.and_self, Bool.or_false, Bool.false_or, Bool.or_true, Bool.true_or, Bool.and_true, Bool.true_and, Bool.and_false, Bool.false_and, beq_self_eq_true, bne_self_eq_false, M.kCe, M.kCt, M.kForT_nx, M.kForT_ct, M.kForT_bk, M.kForT_rt, M.cut_1, M.all_1, M.all_2, M.any_1, M.any_2, M.sum_1, M.sum_2, M.all_map, M.any_map, M.sum_map, M.ok_eJs, M.ok_jsN, M.ok_jsC, M.kJs, ni, c, f1, c2]
            exact ⟨_, rfl⟩
        · simp only [M.ok_ok, M.ok_no, M.oko_some, M.ok_eC, M.ok_eV0, M.ok_eVs, M.ok_e1, M.k1, M.ok_e2, M.k2a, M.k2, M.ok_evs0, M.ok_evs, M.kA, M.ok_eTup, M.ok_eLst, M.ok_eB, M.ok_eCall, M.kTup, M.kLst, M.kB, M.kCall, M.ok_eIf, M.kIfE, M.ok_eAnd, M.kAnd, M.ok_eOr, M.kOr, M.ok_eNot, M.kNotE, M.ok_eChain, M.kCh, M.kCh2, M.ok_tOfE, M.kTo, M.ok_tTru, M.kTru, M.ok_tAnd, M.ok_tOr, M.ok_tNot, M.kTAnd, M.kTOr, M.kTNot, M.ok_tYes, M.ok_pNo, M.ok_pSome, M.kPs, M.ok_eCut, M.kCut, M.kCut1, M.kCut2, M.ok_eDGet, M.kDg, M.kDg2, M.ok_sSeq, M.kSeq_nx, M.kSeq_rt, M.kSeq_bk, M.kSeq_ct, M.ok_sSet, M.kSet, M.ok_sAsg, M.kAsg, M.ok_sPar, M.kPar, M.ok_sDrop, M.kDrop, M.ok_sRet, M.kRet, M.ok_sRetN, M.ok_sNext, M.ok_sBrk, M.ok_sCnt, M.ok_sIf, M.kIf, M.kAug, M.kApp, M.ok_sFor, M.kFor, M.ok_fnM, M.kFn_rt, M.kFn_nx, M.ok_iS, M.kIS_lst, M.kIS_tup, M.ok_iR1, M.kR1, M.ok_iR2, M.kR2, M.ok_eLstRg, M.ok_eTupRg, M.kRg, M.ok_rg1, M.kRg1, M.ok_rg2, M.kRg2, M.kRg2b, M.ok_eM1, M.kM1, M.kM1b, M.ok_eComp, M.kComp, M.kComp1, M.ok_eComp2, M.kCompC, M.kCompB, M.ok_eDisp, M.kDisp, M.ok_sAug1, M.ok_sApp1, M.kApp1, M.kIt_nx, M.kIt_ct, M.kIt_bk, M.kIt_rt, M.v_sub, M.v_addI, M.v_addA, M.v_subA, M.v_lt, M.v_le, M.v_gt, M.v_ge, M.v_int, M.v_lenL, M.v_lenT, M.v_lenZ, M.v_abs, M.v_max, M.v_min, M.v_neg, M.v_ixL, M.v_ixT, M.v_ixZ, M.v_cutL, M.v_cutT, M.v_tupL, M.v_tupT, M.v_lstL, M.v_lstT, M.tr_bl, M.tr_int, M.tr_lst, M.tr_tup, M.tr_non, M.env0_go, M.g_N, M.g_T, M.g_sC, M.g_sN, M.wipe0, M.wipeS, M.ge_0, M.ge_S, List.set_cons_zero, List.set_cons_succ, List.map_cons, List.map_nil, List.cons_append, List.nil_append, List.length_cons, List.length_nil, Nat.reduceAdd, Nat.reduceSub, List.replicate_succ, List.replicate_zero, Option.bind_some, String.reduceBEq, Int.reduceBEq, Bool.or_self, if_true, if_false, Bool.false_eq_true, Bool.not_true, Bool.not_false, true_and, and_true, decide_true, decide_false, Option.map_some, M.is_non_int, M.is_non_bool, M.is_non_str, M.is_non_tuple, M.is_non_list, M.is_non_dict, M.is_bl_int, M.is_bl_bool, M.is_bl_str, M.is_bl_tuple, M.is_bl_list, M.is_bl_dict, M.is_int_int, M.is_int_bool, M.is_int_str, M.is_int_tuple, M.is_int_list, M.is_int_dict, M.is_str_int, M.is_str_bool, M.is_str_str, M.is_str_tuple, M.is_str_list, M.is_str_dict, M.is_tup_int, M.is_tup_bool, M.is_tup_str, M.is_tup_tuple, M.is_tup_list, M.is_tup_dict, M.is_lst_int, M.is_lst_bool, M.is_lst_str, M.is_lst_tuple, M.is_lst_list, M.is_lst_dict, M.isn_non, M.isn_bl, M.isn_int, M.isn_str, M.isn_tup, M.isn_lst, M.str_beq, M.f_non, M.f_bl, M.f_int, M.f_str, M.fe_str, M.fe_int, M.fe_si, M.fe_is, M.in_tup, M.in_lst, M.nin_tup, M.nin_lst, M.at_0, M.at_1, M.at_2, M.at_3, M.eq_int, M.ne_int, M.eq_bl, M.eq_nil, M.eq_str, M.ne_str, List.all_cons, List.all_nil, List.any_cons, List.any_nil, Bool.and_self, Bool.or_false, Bool.false_or, Bool.or_true, Bool.true_or, Bool.and_true, Bool.true_and, Bool.and_false, Bool.false_and, beq_self_eq_true, bne_self_eq_false, M.kCe, M.kCt, M.kForT_nx, M.kForT_ct, M.kForT_bk, M.kForT_rt, M.cut_1, M.all_1, M.all_2, M.any_1, M.any_2, M.sum_1, M.sum_2, M.all_map, M.any_map, M.sum_map, M.ok_eJs, M.ok_jsN, M.ok_jsC, M.kJs, ni, c]
          exact ⟨_, rfl⟩
      · rintro ys s ⟨a2, rfl⟩
        simp only [M.ok_ok, M.ok_no, M.oko_some, M.ok_eC, M.ok_eV0, M.ok_eVs, M.ok_e1, M.k1, M.ok_e2, M.k2a, M.k2, M.ok_evs0, M.ok_evs, M.kA, M.ok_eTup, M.ok_eLst, M.ok_eB, M.ok_eCall, M.kTup, M.kLst, M.kB, M.kCall, M.ok_eIf, M.kIfE, M.ok_eAnd, M.kAnd, M.ok_eOr, M.kOr, M.ok_eNot, M.kNotE, M.ok_eChain, M.kCh, M.kCh2, M.ok_tOfE, M.kTo, M.ok_tTru, M.kTru, M.ok_tAnd, M.ok_tOr, M.ok_tNot, M.kTAnd, M.kTOr, M.kTNot, M.ok_tYes, M.ok_pNo, M.ok_pSome, M.kPs, M.ok_eCut, M.kCut, M.kCut1, M.kCut2, M.ok_eDGet, M.kDg, M.kDg2, M.ok_sSeq, M.kSeq_nx, M.kSeq_rt, M.kSeq_bk, M.kSeq_ct, M.ok_sSet, M.kSet, M.ok_sAsg, M.kAsg, M.ok_sPar, M.kPar, M.ok_sDrop, M.kDrop, M.ok_sRet, M.kRet, M.ok_sRetN, M.ok_sNext, M.ok_sBrk, M.ok_sCnt, M.ok_sIf, M.kIf, M.kAug, M.kApp, M.ok_sFor, M.kFor, M.ok_fnM, M.kFn_rt, M.kFn_nx, M.ok_iS, M.kIS_lst, M.kIS_tup, M.ok_iR1, M.kR1, M.ok_iR2, M.kR2, M.ok_eLstRg, M.ok_eTupRg, M.kRg, M.ok_rg1, M.kRg1, M.ok_rg2, M.kRg2, M.kRg2b, M.ok_eM1, M.kM1, M.kM1b, M.ok_eComp, M.kComp, M.kComp1, M.ok_eComp2, M.kCompC, M.kCompB, M.ok_eDisp, M.kDisp, M.ok_sAug1, M.ok_sApp1, M.kApp1, M.kIt_nx, M.kIt_ct, M.kIt_bk, M.kIt_rt, M.v_sub, M.v_addI, M.v_addA, M.v_subA, M.v_lt, M.v_le, M.v_gt, M.v_ge, M.v_int, M.v_lenL, M.v_lenT, M.v_lenZ, M.v_abs, M.v_max, M.v_min, M.v_neg, M.v_ixL, M.v_ixT, M.v_ixZ, M.v_cutL, M.v_cutT, M.v_tupL, M.v_tupT, M.v_lstL, M.v_lstT, M.tr_bl, M.tr_int, M.tr_lst, M.tr_tup, M.tr_non, M.env0_go, M.g_N, M.g_T, M.g_sC, M.g_sN, M.wipe0, M.wipeS, M.ge_0, M.ge_S, List.set_cons_zero, List.set_cons_succ, List.map_cons, List.map_nil, List.cons_append, List.nil_append, List.length_cons, List.length_nil, Nat.reduceAdd, Nat.reduceSub, List.replicate_succ, List.replicate_zero, Option.bind_some, String.reduceBEq, Int.reduceBEq, Bool.or_self, if_true, if_false, Bool.false_eq_true, Bool.not_true, Bool.not_false, true_and, and_true, decide_true, decide_false, Option.map_some, M.is_non_int, M.is_non_bool, M.is_non_str, M.is_non_tuple, M.is_non_list, M.is_non_dict, M.is_bl_int, M.is_bl_bool, M.is_bl_str, M.is_bl_tuple, M.is_bl_list, M.is_bl_dict, M.is_int_int, M.is_int_bool, M.is_int_str, M.is_int_tuple, M.is_int_list, M.is_int_dict, M.is_str_int, M.is_str_bool, M.is_str_str, M.is_str_tuple, M.is_str_list, M.is_str_dict, M.is_tup_int, M.is_tup_bool, M.is_tup_str, M.is_tup_tuple, M.is_tup_list, M.is_tup_dict, M.is_lst_int, M.is_lst_bool, M.is_lst_str, M.is_lst_tuple, M.is_lst_list, M.is_lst_dict, M.isn_non, M.isn_bl, M.isn_int, M.isn_str, M.isn_tup, M.isn_lst, M.str_beq, M.f_non, M.f_bl, M.f_int, M.f_str, M.fe_str, M.fe_int, M.fe_si, M.fe_is, M.in_tup, M.in_lst, M.nin_tup, M.nin_lst, M.at_0, M.at_1, M.at_2, M.at_3, M.eq_int, M.ne_int, M.eq_bl, M.eq_nil, M.eq_str, M.ne_str, List.all_cons, List.all_nil, List.any_cons, List.any_nil, Bool.and_self, Bool.or_false, Bool.false_or, Bool.or_true, Bool.true_or, Bool.and_true, Bool.true_and, Bool.and_false, Bool.false_and, beq_self_eq_true, bne_self_eq_false, M.kCe, M.kCt, M.kForT_nx, M.kForT_ct, M.kForT_bk, M.kForT_rt, M.cut_1, M.all_1, M.all_2, M.any_1, M.any_2, M.sum_1, M.sum_2, M.all_map, M.any_map, M.sum_map, M.ok_eJs, M.ok_jsN, M.ok_jsC, M.kJs, List.length_map]
        have m1 : ws.map sw ++ [D.tup [.int b, .tup ys]] = (ws ++ [(b, D.tup ys)]).map sw := by rw [List.map_append]; rfl
        rw [m1]
        exact ⟨by omega, done ++ [b], rest, a2, _, _, ws ++ [(b, D.tup ys)], rfl, by rw [e2, List.append_assoc]; rfl, by rw [List.length_append, List.length_append]; simp only [List.length_cons, List.length_nil]; omega, rfl, rfl⟩
  · rintro ρ s ⟨done, rest, a', p5, p18, ws, e1, e2, h3, rfl, rfl⟩
    cases rest with
    | cons => cases e1
    | nil =>
      rw [List.append_nil] at e2
      subst e2
      exact ⟨_, _, _, ws, by omega, rfl, rfl⟩

/-! the whole -/
def NETB (nx pk nm tk jn : Fn1) : MS :=
  (sSeq (sAsg (eTup [(eLstRg (rg1 (eV 2))), (eLst []), (eNewL []), (eNewL []), (eNewL [])]) (gT (gsC (gN 10) (gsC (gN 11) (gsC (gN 12) (gsC (gN 13) (gsC (gN 14) gsN)))))))
    (sSeq (ND1 tk)
    (sSeq ND2
    (sSeq (ND3 nx pk jn)
    (sSeq (ND4 nx tk nm)
    (sSeq (ND5 nx tk jn)
    (sSeq (sSet 7 (eLst []))
    (sSeq (ND6 nx)
    (sRet (eTup [(eV 3), (eTup [(e1 oTuple (eV 7)), (e1 oTuple (eRd oSortedD (eV 14))), (e1 oTuple (eRd oSortedD (eV 13)))])]))))))))))
/-- a net: switches, links, hosts -/
def NetOk (d : D) : Prop := ∃ (ws : List (Int × D)) (ls : List L4) (h : D), d = .tup [.tup (ws.map sw), .tup (ls.map q4), h] ∧ ws.length ≤ 100 ∧ ls.length ≤ 300
theorem rngD_nodup {n : Nat} : ∃ nu : List Int, nu.Nodup ∧ nu.length = n ∧ rngD 0 n = nu.map .int := by
  refine ⟨(List.range n).map fun i : Nat => (i : Int), ?_, by rw [List.length_map, List.length_range], ?_⟩
  · refine List.pairwise_map.mpr ((List.nodup_range (n := n)).imp fun h e => h (by omega))
  · unfold rngD
    rw [List.map_map]
    exact List.map_congr_left fun i _ => by simp only [Function.comp, Int.zero_add]
theorem netb_ok (h1 : Hnx nx xs) (h2 : Hpk pk xs) (h3 : Hnm nm xs) (h4 : Htk tk xs) (h5 : Hjn jn xs) (hm : 2 ≤ many) (hm2 : many ≤ 10) (hs : many ≤ size) (hs2 : size ≤ 15) (hp : 2 ≤ ports) (hp2 : ports ≤ 10) {o10 o11 o12 o13 o14 : Option D} :
    Ok (NETB nx pk nm tk jn [some (.ref 0), some (.ref (t.length + 1)), some (.int size), some hd, o4, o5, o6, o7, some (.int many), some (.int ports), o10, o11, o12, o13, o14, o15, o16, o17, o18] (Sd xs a (t ++ [.lst tn]))) fun o s => ∃ (a' : Nat) (t' : Sto) (net : D), NetOk net ∧ o = .rt (.tup [hd, net]) ∧ s = Sd xs a' t' := by
  unfold NETB
  obtain ⟨nu, n1, n2, n3⟩ := rngD_nodup (n := size)
  have z : rngD 0 ((size : Int) - 0).toNat = nu.map .int := by rw [show ((size : Int) - 0).toNat = size by omega]; exact n3
  simp only [M.ok_ok, M.ok_no, M.oko_some, M.ok_eC, M.ok_eV0, M.ok_eVs, M.ok_e1, M.k1, M.ok_e2, M.k2a, M.k2, M.ok_evs0, M.ok_evs, M.kA, M.ok_eTup, M.ok_eLst, M.ok_eB, M.ok_eCall, M.kTup, M.kLst, M.kB, M.kCall, M.ok_eIf, M.kIfE, M.ok_eAnd, M.kAnd, M.ok_eOr, M.kOr, M.ok_eNot, M.kNotE, M.ok_eChain, M.kCh, M.kCh2, M.ok_tOfE, M.kTo, M.ok_tTru, M.kTru, M.ok_tAnd, M.ok_tOr, M.ok_tNot, M.kTAnd, M.kTOr, M.kTNot, M.ok_tYes, M.ok_pNo, M.ok_pSome, M.kPs, M.ok_eCut, M.kCut, M.kCut1, M.kCut2, M.ok_eDGet, M.kDg, M.kDg2, M.ok_sSeq, M.kSeq_nx, M.kSeq_rt, M.kSeq_bk, M.kSeq_ct, M.ok_sSet, M.kSet, M.ok_sAsg, M.kAsg, M.ok_sPar, M.kPar, M.ok_sDrop, M.kDrop, M.ok_sRet, M.kRet, M.ok_sRetN, M.ok_sNext, M.ok_sBrk, M.ok_sCnt, M.ok_sIf, M.kIf, M.kAug, M.kApp, M.ok_sFor, M.kFor, M.ok_fnM, M.kFn_rt, M.kFn_nx, M.ok_iS, M.kIS_lst, M.kIS_tup, M.ok_iR1, M.kR1, M.ok_iR2, M.kR2, M.ok_eLstRg, M.ok_eTupRg, M.kRg, M.ok_rg1, M.kRg1, M.ok_rg2, M.kRg2, M.kRg2b, M.ok_eM1, M.kM1, M.kM1b, M.ok_eComp, M.kComp, M.kComp1, M.ok_eComp2, M.kCompC, M.kCompB, M.ok_eDisp, M.kDisp, M.ok_sAug1, M.ok_sApp1, M.kApp1, M.kIt_nx, M.kIt_ct, M.kIt_bk, M.kIt_rt, M.v_sub, M.v_addI, M.v_addA, M.v_subA, M.v_lt, M.v_le, M.v_gt, M.v_ge, M.v_int, M.v_lenL, M.v_lenT, M.v_lenZ, M.v_abs, M.v_max, M.v_min, M.v_neg, M.v_ixL, M.v_ixT, M.v_ixZ, M.v_cutL, M.v_cutT, M.v_tupL, M.v_tupT, M.v_lstL, M.v_lstT, M.tr_bl, M.tr_int, M.tr_lst, M.tr_tup, M.tr_non, M.env0_go, M.g_N, M.g_T, M.g_sC, M.g_sN, M.wipe0, M.wipeS, M.ge_0, M.ge_S, List.set_cons_zero, List.set_cons_succ, List.map_cons, List.map_nil, List.cons_append, List.nil_append, List.length_cons, List.length_nil, Nat.reduceAdd, Nat.reduceSub, List.replicate_succ, List.replicate_zero, Option.bind_some, String.reduceBEq, Int.reduceBEq, Bool.or_self, if_true, if_false, Bool.false_eq_true, Bool.not_true, Bool.not_false, true_and, and_true, decide_true, decide_false, Option.map_some, M.is_non_int, M.is_non_bool, M.is_non_str, M.is_non_tuple, M.is_non_list, M.is_non_dict, M.is_bl_int, M.is_bl_bool, M.is_bl_str, M.is_bl_tuple, M.is_bl_list, M.is_bl_dict, M.is_int_int, M.is_int_bool, M.is_int_str, M.is_int_tuple, M.is_int_list, M.is_int_dict, M.is_str_int, M.is_str_bool, M.is_str_str, M.is_str_tuple, M.is_str_list, M.is_str_dict, M.is_tup_int, M.is_tup_bool, M.is_tup_str, M.is_tup_tuple, M.is_tup_list, M.is_tup_dict, M.is_lst_int, M.is_lst_bool, M.is_lst_str, M.is_lst_tuple, M.is_lst_list, M.is_lst_dict, M.isn_non, M.isn_bl, M.isn_int, M.isn_str, M.isn_tup, M.isn_lst, M.str_beq, M.f_non, M.f_bl, M.f_int, M.f_str, M.fe_str, M.fe_int, M.fe_si, M.fe_is, M.in_tup, M.in_lst, M.nin_tup, M.nin_lst, M.at_0, M.at_1, M.at_2, M.at_3, M.eq_int, M.ne_int, M.eq_bl, M.eq_nil, M.eq_str, M.ne_str, List.all_cons, List.all_nil, List.any_cons, List.any_nil, Bool.and_self, Bool.or_false, Bool.false_or, Bool.or_true, Bool.true_or, Bool.and_true, Bool.true_and, Bool.and_false, Bool.false_and, beq_self_eq_true, bne_self_eq_false, M.kCe, M.kCt, M.kForT_nx, M.kForT_ct, M.kForT_bk, M.kForT_rt, M.cut_1, M.all_1, M.all_2, M.any_1, M.any_2, M.sum_1, M.sum_2, M.all_map, M.any_map, M.sum_map, M.ok_eJs, M.ok_jsN, M.ok_jsC, M.kJs, ok_eNewL, kNewL, sd_len, sd_app, z, List.length_append, List.append_assoc]
  refine ⟨by unfold rgOk; simp only [decide_eq_true_eq]; omega, ?_⟩
  have zt : t ++ [Cell.lst tn, Cell.lst [], Cell.lst [], Cell.lst []] = tl t tn [] [] [] := rfl
  rw [zt]
  refine Ok.mono (nd1_ok (n := t.length) (le := []) h4 n1 hs (by omega) n2) ?_
  rintro o s ⟨a1, p4, nu1, k1, k2, rfl, rfl⟩
  rw [kSeq_nx, ok_sSeq]
  refine Ok.mono (nd2_ok (n := t.length) (by omega) (by omega)) ?_
  rintro o s ⟨p5, p18, le1, k3, k4, rfl, rfl⟩
  rw [kSeq_nx, ok_sSeq]
  refine Ok.mono (nd3_ok h1 h2 h5 k1 hp k2 (by omega) (by omega) k4 ⟨⟨by omega, ((0 : Nat) : Int), k3 _ (List.getElem_mem (by omega)) 0 (by omega)⟩, fun j hj _ p hp => k3 _ (List.getElem_mem hj) p hp⟩) ?_
  rintro o s ⟨a2, p6, p15, p16, p17, le2, lk2, k5, k6, rfl, rfl⟩
  rw [kSeq_nx, ok_sSeq]
  refine Ok.mono (nd4_ok h1 h4 h3 k5 (by omega)) ?_
  rintro o s ⟨a3, q4', q17, le3, nn3, hs3, k7, k8, rfl, rfl⟩
  rw [kSeq_nx, ok_sSeq]
  refine Ok.mono (nd5_ok h1 h4 h5 k7 k6) ?_
  rintro o s ⟨a4, r4, r15, r16, le4, lk4, k9, k10, rfl, rfl⟩
  rw [kSeq_nx, ok_sSeq]
  unfold en
  simp only [M.ok_ok, M.ok_no, M.oko_some, M.ok_eC, M.ok_eV0, M.ok_eVs, M.ok_e1, M.k1, M.ok_e2, M.k2a, M.k2, M.ok_evs0, M.ok_evs, M.kA, M.ok_eTup, M.ok_eLst, M.ok_eB, M.ok_eCall, M.kTup, M.kLst, M.kB, M.kCall, M.ok_eIf, M.kIfE, M.ok_eAnd, M.kAnd, M.ok_eOr, M.kOr, M.ok_eNot, M.kNotE, M.ok_eChain, M.kCh, M.kCh2, M.ok_tOfE, M.kTo, M.ok_tTru, M.kTru, M.ok_tAnd, M.ok_tOr, M.ok_tNot, M.kTAnd, M.kTOr, M.kTNot, M.ok_tYes, M.ok_pNo, M.ok_pSome, M.kPs, M.ok_eCut, M.kCut, M.kCut1, M.kCut2, M.ok_eDGet, M.kDg, M.kDg2, M.ok_sSeq, M.kSeq_nx, M.kSeq_rt, M.kSeq_bk, M.kSeq_ct, M.ok_sSet, M.kSet, M.ok_sAsg, M.kAsg, M.ok_sPar, M.kPar, M.ok_sDrop, M.kDrop, M.ok_sRet, M.kRet, M.ok_sRetN, M.ok_sNext, M.ok_sBrk, M.ok_sCnt, M.ok_sIf, M.kIf, M.kAug, M.kApp, M.ok_sFor, M.kFor, M.ok_fnM, M.kFn_rt, M.kFn_nx, M.ok_iS, M.kIS_lst, M.kIS_tup, M.ok_iR1, M.kR1, M.ok_iR2, M.kR2, M.ok_eLstRg, M.ok_eTupRg, M.kRg, M.ok_rg1, M.kRg1, M.ok_rg2, M.kRg2, M.kRg2b, M.ok_eM1, M.kM1, M.kM1b, M.ok_eComp, M.kComp, M.kComp1, M.ok_eComp2, M.kCompC, M.kCompB, M.ok_eDisp, M.kDisp, M.ok_sAug1, M.ok_sApp1, M.kApp1, M.kIt_nx, M.kIt_ct, M.kIt_bk, M.kIt_rt, M.v_sub, M.v_addI, M.v_addA, M.v_subA, M.v_lt, M.v_le, M.v_gt, M.v_ge, M.v_int, M.v_lenL, M.v_lenT, M.v_lenZ, M.v_abs, M.v_max, M.v_min, M.v_neg, M.v_ixL, M.v_ixT, M.v_ixZ, M.v_cutL, M.v_cutT, M.v_tupL, M.v_tupT, M.v_lstL, M.v_lstT, M.tr_bl, M.tr_int, M.tr_lst, M.tr_tup, M.tr_non, M.env0_go, M.g_N, M.g_T, M.g_sC, M.g_sN, M.wipe0, M.wipeS, M.ge_0, M.ge_S, List.set_cons_zero, List.set_cons_succ, List.map_cons, List.map_nil, List.cons_append, List.nil_append, List.length_cons, List.length_nil, Nat.reduceAdd, Nat.reduceSub, List.replicate_succ, List.replicate_zero, Option.bind_some, String.reduceBEq, Int.reduceBEq, Bool.or_self, if_true, if_false, Bool.false_eq_true, Bool.not_true, Bool.not_false, true_and, and_true, decide_true, decide_false, Option.map_some, M.is_non_int, M.is_non_bool, M.is_non_str, M.is_non_tuple, M.is_non_list, M.is_non_dict, M.is_bl_int, M.is_bl_bool, M.is_bl_str, M.is_bl_tuple, M.is_bl_list, M.is_bl_dict, M.is_int_int, M.is_int_bool, M.is_int_str, M.is_int_tuple, M.is_int_list, M.is_int_dict, M.is_str_int, M.is_str_bool, M.is_str_str, M.is_str_tuple, M.is_str_list, M.is_str_dict, M.is_tup_int, M.is_tup_bool, M.is_tup_str, M.is_tup_tuple, M.is_tup_list, M.is_tup_dict, M.is_lst_int, M.is_lst_bool, M.is_lst_str, M.is_lst_tuple, M.is_lst_list, M.is_lst_dict, M.isn_non, M.isn_bl, M.isn_int, M.isn_str, M.isn_tup, M.isn_lst, M.str_beq, M.f_non, M.f_bl, M.f_int, M.f_str, M.fe_str, M.fe_int, M.fe_si, M.fe_is, M.in_tup, M.in_lst, M.nin_tup, M.nin_lst, M.at_0, M.at_1, M.at_2, M.at_3, M.eq_int, M.ne_int, M.eq_bl, M.eq_nil, M.eq_str, M.ne_str, List.all_cons, List.all_nil, List.any_cons, List.any_nil, Bool.and_self, Bool.or_false, Bool.false_or, Bool.or_true, Bool.true_or, Bool.and_true, Bool.true_and, Bool.and_false, Bool.false_and, beq_self_eq_true, bne_self_eq_false, M.kCe, M.kCt, M.kForT_nx, M.kForT_ct, M.kForT_bk, M.kForT_rt, M.cut_1, M.all_1, M.all_2, M.any_1, M.any_2, M.sum_1, M.sum_2, M.all_map, M.any_map, M.sum_map, M.ok_eJs, M.ok_jsN, M.ok_jsC, M.kJs]
  refine Ok.mono (nd6_ok (n := t.length) h1 (by omega) (by omega)) ?_
  rintro o s ⟨a5, p5, p18, ws, k11, rfl, rfl⟩
  rw [kSeq_nx]
  obtain ⟨ys, y1, y2⟩ := sort4 lk4
  unfold en
  simp only [M.ok_ok, M.ok_no, M.oko_some, M.ok_eC, M.ok_eV0, M.ok_eVs, M.ok_e1, M.k1, M.ok_e2, M.k2a, M.k2, M.ok_evs0, M.ok_evs, M.kA, M.ok_eTup, M.ok_eLst, M.ok_eB, M.ok_eCall, M.kTup, M.kLst, M.kB, M.kCall, M.ok_eIf, M.kIfE, M.ok_eAnd, M.kAnd, M.ok_eOr, M.kOr, M.ok_eNot, M.kNotE, M.ok_eChain, M.kCh, M.kCh2, M.ok_tOfE, M.kTo, M.ok_tTru, M.kTru, M.ok_tAnd, M.ok_tOr, M.ok_tNot, M.kTAnd, M.kTOr, M.kTNot, M.ok_tYes, M.ok_pNo, M.ok_pSome, M.kPs, M.ok_eCut, M.kCut, M.kCut1, M.kCut2, M.ok_eDGet, M.kDg, M.kDg2, M.ok_sSeq, M.kSeq_nx, M.kSeq_rt, M.kSeq_bk, M.kSeq_ct, M.ok_sSet, M.kSet, M.ok_sAsg, M.kAsg, M.ok_sPar, M.kPar, M.ok_sDrop, M.kDrop, M.ok_sRet, M.kRet, M.ok_sRetN, M.ok_sNext, M.ok_sBrk, M.ok_sCnt, M.ok_sIf, M.kIf, M.kAug, M.kApp, M.ok_sFor, M.kFor, M.ok_fnM, M.kFn_rt, M.kFn_nx, M.ok_iS, M.kIS_lst, M.kIS_tup, M.ok_iR1, M.kR1, M.ok_iR2, M.kR2, M.ok_eLstRg, M.ok_eTupRg, M.kRg, M.ok_rg1, M.kRg1, M.ok_rg2, M.kRg2, M.kRg2b, M.ok_eM1, M.kM1, M.kM1b, M.ok_eComp, M.kComp, M.kComp1, M.ok_eComp2, M.kCompC, M.kCompB, M.ok_eDisp, M.kDisp, M.ok_sAug1, M.ok_sApp1, M.kApp1, M.kIt_nx, M.kIt_ct, M.kIt_bk, M.kIt_rt, M.v_sub, M.v_addI, M.v_addA, M.v_subA, M.v_lt, M.v_le, M.v_gt, M.v_ge, M.v_int, M.v_lenL, M.v_lenT, M.v_lenZ, M.v_abs, M.v_max, M.v_min, M.v_neg, M.v_ixL, M.v_ixT, M.v_ixZ, M.v_cutL, M.v_cutT, M.v_tupL, M.v_tupT, M.v_lstL, M.v_lstT, M.tr_bl, M.tr_int, M.tr_lst, M.tr_tup, M.tr_non, M.env0_go, M.g_N, M.g_T, M.g_sC, M.g_sN, M.wipe0, M.wipeS, M.ge_0, M.ge_S, List.set_cons_zero, List.set_cons_succ, List.map_cons, List.map_nil, List.cons_append, List.nil_append, List.length_cons, List.length_nil, Nat.reduceAdd, Nat.reduceSub, List.replicate_succ, List.replicate_zero, Option.bind_some, String.reduceBEq, Int.reduceBEq, Bool.or_self, if_true, if_false, Bool.false_eq_true, Bool.not_true, Bool.not_false, true_and, and_true, decide_true, decide_false, Option.map_some, M.is_non_int, M.is_non_bool, M.is_non_str, M.is_non_tuple, M.is_non_list, M.is_non_dict, M.is_bl_int, M.is_bl_bool, M.is_bl_str, M.is_bl_tuple, M.is_bl_list, M.is_bl_dict, M.is_int_int, M.is_int_bool, M.is_int_str, M.is_int_tuple, M.is_int_list, M.is_int_dict, M.is_str_int, M.is_str_bool, M.is_str_str, M.is_str_tuple, M.is_str_list, M.is_str_dict, M.is_tup_int, M.is_tup_bool, M.is_tup_str, M.is_tup_tuple, M.is_tup_list, M.is_tup_dict, M.is_lst_int, M.is_lst_bool, M.is_lst_str, M.is_lst_tuple, M.is_lst_list, M.is_lst_dict, M.isn_non, M.isn_bl, M.isn_int, M.isn_str, M.isn_tup, M.isn_lst, M.str_beq, M.f_non, M.f_bl, M.f_int, M.f_str, M.fe_str, M.fe_int, M.fe_si, M.fe_is, M.in_tup, M.in_lst, M.nin_tup, M.nin_lst, M.at_0, M.at_1, M.at_2, M.at_3, M.eq_int, M.ne_int, M.eq_bl, M.eq_nil, M.eq_str, M.ne_str, List.all_cons, List.all_nil, List.any_cons, List.any_nil, Bool.and_self, Bool.or_false, Bool.false_or, Bool.or_true, Bool.true_or, Bool.and_true, Bool.true_and, Bool.and_false, Bool.false_and, beq_self_eq_true, bne_self_eq_false, M.kCe, M.kCt, M.kForT_nx, M.kForT_ct, M.kForT_bk, M.kForT_rt, M.cut_1, M.all_1, M.all_2, M.any_1, M.any_2, M.sum_1, M.sum_2, M.all_map, M.any_map, M.sum_map, M.ok_eJs, M.ok_jsN, M.ok_jsC, M.kJs]
  refine ok_rd (n := t.length + 3 + 1) rfl (sd_get.trans tl_g3) y2 ?_
  simp only [M.ok_ok, M.ok_no, M.oko_some, M.ok_eC, M.ok_eV0, M.ok_eVs, M.ok_e1, M.k1, M.ok_e2, M.k2a, M.k2, M.ok_evs0, M.ok_evs, M.kA, M.ok_eTup, M.ok_eLst, M.ok_eB, M.ok_eCall, M.kTup, M.kLst, M.kB, M.kCall, M.ok_eIf, M.kIfE, M.ok_eAnd, M.kAnd, M.ok_eOr, M.kOr, M.ok_eNot, M.kNotE, M.ok_eChain, M.kCh, M.kCh2, M.ok_tOfE, M.kTo, M.ok_tTru, M.kTru, M.ok_tAnd, M.ok_tOr, M.ok_tNot, M.kTAnd, M.kTOr, M.kTNot, M.ok_tYes, M.ok_pNo, M.ok_pSome, M.kPs, M.ok_eCut, M.kCut, M.kCut1, M.kCut2, M.ok_eDGet, M.kDg, M.kDg2, M.ok_sSeq, M.kSeq_nx, M.kSeq_rt, M.kSeq_bk, M.kSeq_ct, M.ok_sSet, M.kSet, M.ok_sAsg, M.kAsg, M.ok_sPar, M.kPar, M.ok_sDrop, M.kDrop, M.ok_sRet, M.kRet, M.ok_sRetN, M.ok_sNext, M.ok_sBrk, M.ok_sCnt, M.ok_sIf, M.kIf, M.kAug, M.kApp, M.ok_sFor, M.kFor, M.ok_fnM, M.kFn_rt, M.kFn_nx, M.ok_iS, M.kIS_lst, M.kIS_tup, M.ok_iR1, M.kR1, M.ok_iR2, M.kR2, M.ok_eLstRg, M.ok_eTupRg, M.kRg, M.ok_rg1, M.kRg1, M.ok_rg2, M.kRg2, M.kRg2b, M.ok_eM1, M.kM1, M.kM1b, M.ok_eComp, M.kComp, M.kComp1, M.ok_eComp2, M.kCompC, M.kCompB, M.ok_eDisp, M.kDisp, M.ok_sAug1, M.ok_sApp1, M.kApp1, M.kIt_nx, M.kIt_ct, M.kIt_bk, M.kIt_rt, M.v_sub, M.v_addI, M.v_addA, M.v_subA, M.v_lt, M.v_le, M.v_gt, M.v_ge, M.v_int, M.v_lenL, M.v_lenT, M.v_lenZ, M.v_abs, M.v_max, M.v_min, M.v_neg, M.v_ixL, M.v_ixT, M.v_ixZ, M.v_cutL, M.v_cutT, M.v_tupL, M.v_tupT, M.v_lstL, M.v_lstT, M.tr_bl, M.tr_int, M.tr_lst, M.tr_tup, M.tr_non, M.env0_go, M.g_N, M.g_T, M.g_sC, M.g_sN, M.wipe0, M.wipeS, M.ge_0, M.ge_S, List.set_cons_zero, List.set_cons_succ, List.map_cons, List.map_nil, List.cons_append, List.nil_append, List.length_cons, List.length_nil, Nat.reduceAdd, Nat.reduceSub, List.replicate_succ, List.replicate_zero, Option.bind_some, String.reduceBEq, Int.reduceBEq, Bool.or_self, if_true, if_false, Bool.false_eq_true, Bool.not_true, Bool.not_false, true_and, and_true, decide_true, decide_false, Option.map_some, M.is_non_int, M.is_non_bool, M.is_non_str, M.is_non_tuple, M.is_non_list, M.is_non_dict, M.is_bl_int, M.is_bl_bool, M.is_bl_str, M.is_bl_tuple, M.is_bl_list, M.is_bl_dict, M.is_int_int, M.is_int_bool, M.is_int_str, M.is_int_tuple, M.is_int_list, M.is_int_dict, M.is_str_int, M.is_str_bool, M.is_str_str, M.is_str_tuple, M.is_str_list, M.is_str_dict, M.is_tup_int, M.is_tup_bool, M.is_tup_str, M.is_tup_tuple, M.is_tup_list, M.is_tup_dict, M.is_lst_int, M.is_lst_bool, M.is_lst_str, M.is_lst_tuple, M.is_lst_list, M.is_lst_dict, M.isn_non, M.isn_bl, M.isn_int, M.isn_str, M.isn_tup, M.isn_lst, M.str_beq, M.f_non, M.f_bl, M.f_int, M.f_str, M.fe_str, M.fe_int, M.fe_si, M.fe_is, M.in_tup, M.in_lst, M.nin_tup, M.nin_lst, M.at_0, M.at_1, M.at_2, M.at_3, M.eq_int, M.ne_int, M.eq_bl, M.eq_nil, M.eq_str, M.ne_str, List.all_cons, List.all_nil, List.any_cons, List.any_nil, Bool.and_self, Bool.or_false, Bool.false_or, Bool.or_true, Bool.true_or, Bool.and_true, Bool.true_and, Bool.and_false, Bool.false_and, beq_self_eq_true, bne_self_eq_false, M.kCe, M.kCt, M.kForT_nx, M.kForT_ct, M.kForT_bk, M.kForT_rt, M.cut_1, M.all_1, M.all_2, M.any_1, M.any_2, M.sum_1, M.sum_2, M.all_map, M.any_map, M.sum_map, M.ok_eJs, M.ok_jsN, M.ok_jsC, M.kJs]
  refine ok_rd (n := t.length + 2 + 1) rfl (sd_get.trans tl_g2) (sort_hs _) ?_
  simp only [M.ok_ok, M.ok_no, M.oko_some, M.ok_eC, M.ok_eV0, M.ok_eVs, M.ok_e1, M.k1, M.ok_e2, M.k2a, M.k2, M.ok_evs0, M.ok_evs, M.kA, M.ok_eTup, M.ok_eLst, M.ok_eB, M.ok_eCall, M.kTup, M.kLst, M.kB, M.kCall, M.ok_eIf, M.kIfE, M.ok_eAnd, M.kAnd, M.ok_eOr, M.kOr, M.ok_eNot, M.kNotE, M.ok_eChain, M.kCh, M.kCh2, M.ok_tOfE, M.kTo, M.ok_tTru, M.kTru, M.ok_tAnd, M.ok_tOr, M.ok_tNot, M.kTAnd, M.kTOr, M.kTNot, M.ok_tYes, M.ok_pNo, M.ok_pSome, M.kPs, M.ok_eCut, M.kCut, M.kCut1, M.kCut2, M.ok_eDGet, M.kDg, M.kDg2, M.ok_sSeq, M.kSeq_nx, M.kSeq_rt, M.kSeq_bk, M.kSeq_ct, M.ok_sSet, M.kSet, M.ok_sAsg, M.kAsg, M.ok_sPar, M.kPar, M.ok_sDrop, M.kDrop, M.ok_sRet, M.kRet, M.ok_sRetN, M.ok_sNext, M.ok_sBrk, M.ok_sCnt, M.ok_sIf, M.kIf, M.kAug, M.kApp, M.ok_sFor, M.kFor, M.ok_fnM, M.kFn_rt, M.kFn_nx, M.ok_iS, M.kIS_lst, M.kIS_tup, M.ok_iR1, M.kR1, M.ok_iR2, M.kR2, M.ok_eLstRg, M.ok_eTupRg, M.kRg, M.ok_rg1, M.kRg1, M.ok_rg2, M.kRg2, M.kRg2b, M.ok_eM1, M.kM1, M.kM1b, M.ok_eComp, M.kComp, M.kComp1, M.ok_eComp2, M.kCompC, M.kCompB, M.ok_eDisp, M.kDisp, M.ok_sAug1, M.ok_sApp1, M.kApp1, M.kIt_nx, M.kIt_ct, M.kIt_bk, M.kIt_rt, M.v_sub, M.v_addI, M.v_addA, M.v_subA, M.v_lt, M.v_le, M.v_gt, M.v_ge, M.v_int, M.v_lenL, M.v_lenT, M.v_lenZ, M.v_abs, M.v_max, M.v_min, M.v_neg, M.v_ixL, M.v_ixT, M.v_ixZ, M.v_cutL, M.v_cutT, M.v_tupL, M.v_tupT, M.v_lstL, M.v_lstT, M.tr_bl, M.tr_int, M.tr_lst, M.tr_tup, M.tr_non, M.env0_go, M.g_N, M.g_T, M.g_sC, M.g_sN, M.wipe0, M.wipeS, M.ge_0, M.ge_S, List.set_cons_zero, List.set_cons_succ, List.map_cons, List.map_nil, List.cons_append, List.nil_append, List.length_cons, List.length_nil, Nat.reduceAdd, Nat.reduceSub, List.replicate_succ, List.replicate_zero, Option.bind_some, String.reduceBEq, Int.reduceBEq, Bool.or_self, if_true, if_false, Bool.false_eq_true, Bool.not_true, Bool.not_false, true_and, and_true, decide_true, decide_false, Option.map_some, M.is_non_int, M.is_non_bool, M.is_non_str, M.is_non_tuple, M.is_non_list, M.is_non_dict, M.is_bl_int, M.is_bl_bool, M.is_bl_str, M.is_bl_tuple, M.is_bl_list, M.is_bl_dict, M.is_int_int, M.is_int_bool, M.is_int_str, M.is_int_tuple, M.is_int_list, M.is_int_dict, M.is_str_int, M.is_str_bool, M.is_str_str, M.is_str_tuple, M.is_str_list, M.is_str_dict, M.is_tup_int, M.is_tup_bool, M.is_tup_str, M.is_tup_tuple, M.is_tup_list, M.is_tup_dict, M.is_lst_int, M.is_lst_bool, M.is_lst_str, M.is_lst_tuple, M.is_lst_list, M.is_lst_dict, M.isn_non, M.isn_bl, M.isn_int, M.isn_str, M.isn_tup, M.isn_lst, M.str_beq, M.f_non, M.f_bl, M.f_int, M.f_str, M.fe_str, M.fe_int, M.fe_si, M.fe_is, M.in_tup, M.in_lst, M.nin_tup, M.nin_lst, M.at_0, M.at_1, M.at_2, M.at_3, M.eq_int, M.ne_int, M.eq_bl, M.eq_nil, M.eq_str, M.ne_str, List.all_cons, List.all_nil, List.any_cons, List.any_nil, Bool.and_self, Bool.or_false, Bool.false_or, Bool.or_true, Bool.true_or, Bool.and_true, Bool.true_and, Bool.and_false, Bool.false_and, beq_self_eq_true, bne_self_eq_false, M.kCe, M.kCt, M.kForT_nx, M.kForT_ct, M.kForT_bk, M.kForT_rt, M.cut_1, M.all_1, M.all_2, M.any_1, M.any_2, M.sum_1, M.sum_2, M.all_map, M.any_map, M.sum_map, M.ok_eJs, M.ok_jsN, M.ok_jsC, M.kJs]
  exact ⟨_, _, _, ⟨ws, ys, _, rfl, k11, by rw [y1.length_eq]; exact k10⟩, rfl, rfl⟩
def NET (nx pk nm tk jn : Fn1) : MS :=
  (sSeq (sSet 1 (eNewL [(eC (.str "sw")), (eC (.str "pt")), (eC (.str "stamp")), (eC (.str "tag")), (eC (.str "slice"))]))
    (sSeq (sPar 8 9 [(e2 oAdd (eC (.int 2)) (eCall nx [(eV 0), (eC (.int 3))])), (eCall pk [(eV 0), (eLst [(eC (.int 3)), (eC (.int 3)), (eC (.int 2)), (eC (.int 4))])])])
    (sSeq (sSet 2 (e2 oAdd (eV 8) (eCall nx [(eV 0), (eC (.int 2))])))
    (sSeq (sSet 3 (eTup [(eTup [(eC (.str "sw")), (eV 2)]), (eTup [(eC (.str "pt")), (eV 9)])]))
    (sSeq (sIf (tAndM (tOfE (e2 oGt (eCall nx [(eV 0), (eC (.int 3))]) (eC (.int 0)))) (tOfE (e2 oLt (e2 oMul (eV 2) (eV 9)) (eC (.int 17))))) (sSet 3 (e2 oAdd (eV 3) (eTup [(eTup [(eCall nm [(eV 0), (eV 1)]), (eC (.int 2))])]))) sNext)
    (NETB nx pk nm tk jn))))))
theorem net_ok (h1 : Hnx nx xs) (h2 : Hpk pk xs) (h3 : Hnm nm xs) (h4 : Htk tk xs) (h5 : Hjn jn xs) :
    Ok (fnM 19 (NET nx pk nm tk jn) [.ref 0] (Sd xs a t)) fun v s => ∃ (a' : Nat) (t' : Sto) (hd net : D), NetOk net ∧ v = .tup [hd, net] ∧ s = Sd xs a' t' := by
  unfold NET
  generalize Str.ofString "sw" = s1
  generalize Str.ofString "pt" = s2
  generalize Str.ofString "stamp" = s3
  generalize Str.ofString "tag" = s4
  generalize Str.ofString "slice" = s5
  generalize htn : [D.str s1, .str s2, .str s3, .str s4, .str s5] = tn
  have ft : tn.all flatD = true := by subst htn; rfl
  have lt : tn.length = 5 := by subst htn; rfl
  obtain ⟨n1, q1, f1⟩ := nx_nat h1 a (t ++ [.lst tn]) 3 (by decide)
  obtain ⟨d, hd, f2⟩ := pk_mem h2 (a + 1) (t ++ [.lst tn]) [.int 3, .int 3, .int 2, .int 4] (by simp)
  obtain ⟨ports, p1, p2, rfl⟩ : ∃ n : Nat, 2 ≤ n ∧ n ≤ 4 ∧ d = .int n := by
    simp only [List.mem_cons, List.not_mem_nil, or_false] at hd
    rcases hd with rfl | rfl | rfl | rfl
    · exact ⟨3, by decide, by decide, rfl⟩
    · exact ⟨3, by decide, by decide, rfl⟩
    · exact ⟨2, by decide, by decide, rfl⟩
    · exact ⟨4, by decide, by decide, rfl⟩
  obtain ⟨n2, q2, f3⟩ := nx_nat h1 (a + 1 + 1) (t ++ [.lst tn]) 2 (by decide)
  obtain ⟨n3, q3, f4⟩ := nx_nat h1 (a + 1 + 1 + 1) (t ++ [.lst tn]) 3 (by decide)
  have f1 : nx [.ref 0, .int 3] (Sd xs a (t ++ [.lst tn])) = .ok (.int n1) (Sd xs (a + 1) (t ++ [.lst tn])) := f1
  have f3 : nx [.ref 0, .int 2] (Sd xs (a + 1 + 1) (t ++ [.lst tn])) = .ok (.int n2) (Sd xs (a + 1 + 1 + 1) (t ++ [.lst tn])) := f3
  have f4 : nx [.ref 0, .int 3] (Sd xs (a + 1 + 1 + 1) (t ++ [.lst tn])) = .ok (.int n3) (Sd xs (a + 1 + 1 + 1 + 1) (t ++ [.lst tn])) := f4
  have m1 : (2 : Int) + n1 = ((n1 + 2 : Nat) : Int) := by omega
  have m2 : ((n1 + 2 : Nat) : Int) + n2 = ((n1 + 2 + n2 : Nat) : Int) := by omega
  have mu := v_mulN (a := n1 + 2 + n2) (b := ports) (by omega) (by omega)
  have fin : ∀ (hd : D) (a : Nat) (tn : List D) (Q : D → Sto → Prop), (∀ (a' : Nat) (t' : Sto) (net : D), NetOk net → Q (.tup [hd, net]) (Sd xs a' t')) → Ok (NETB nx pk nm tk jn [some (.ref 0), some (.ref (t.length + 1)), some (.int ((n1 + 2 + n2 : Nat) : Int)), some hd, none, none, none, none, some (.int ((n1 + 2 : Nat) : Int)), some (.int ports), none, none, none, none, none, none, none, none, none] (Sd xs a (t ++ [.lst tn]))) (KFn Q) := fun hd a tn Q hQ => by
    refine Ok.mono (netb_ok h1 h2 h3 h4 h5 (by omega) (by omega) (by omega) (by omega) p1 (by omega)) ?_
    rintro o s ⟨a', t', net, hn, rfl, rfl⟩
    rw [kFn_rt]
    exact hQ a' t' net hn
  simp only [M.ok_ok, M.ok_no, M.oko_some, M.ok_eC, M.ok_eV0, M.ok_eVs, M.ok_e1, M.k1, M.ok_e2, M.k2a, M.k2, M.ok_evs0, M.ok_evs, M.kA, M.ok_eTup, M.ok_eLst, M.ok_eB, M.ok_eCall, M.kTup, M.kLst, M.kB, M.kCall, M.ok_eIf, M.kIfE, M.ok_eAnd, M.kAnd, M.ok_eOr, M.kOr, M.ok_eNot, M.kNotE, M.ok_eChain, M.kCh, M.kCh2, M.ok_tOfE, M.kTo, M.ok_tTru, M.kTru, M.ok_tAnd, M.ok_tOr, M.ok_tNot, M.kTAnd, M.kTOr, M.kTNot, M.ok_tYes, M.ok_pNo, M.ok_pSome, M.kPs, M.ok_eCut, M.kCut, M.kCut1, M.kCut2, M.ok_eDGet, M.kDg, M.kDg2, M.ok_sSeq, M.kSeq_nx, M.kSeq_rt, M.kSeq_bk, M.kSeq_ct, M.ok_sSet, M.kSet, M.ok_sAsg, M.kAsg, M.ok_sPar, M.kPar, M.ok_sDrop, M.kDrop, M.ok_sRet, M.kRet, M.ok_sRetN, M.ok_sNext, M.ok_sBrk, M.ok_sCnt, M.ok_sIf, M.kIf, M.kAug, M.kApp, M.ok_sFor, M.kFor, M.ok_fnM, M.kFn_rt, M.kFn_nx, M.ok_iS, M.kIS_lst, M.kIS_tup, M.ok_iR1, M.kR1, M.ok_iR2, M.kR2, M.ok_eLstRg, M.ok_eTupRg, M.kRg, M.ok_rg1, M.kRg1, M.ok_rg2, M.kRg2, M.kRg2b, M.ok_eM1, M.kM1, M.kM1b, M.ok_eComp, M.kComp, M.kComp1, M.ok_eComp2, M.kCompC, M.kCompB, M.ok_eDisp, M.kDisp, M.ok_sAug1, M.ok_sApp1, M.kApp1, M.kIt_nx, M.kIt_ct, M.kIt_bk, M.kIt_rt, M.v_sub, M.v_addI, M.v_addA, M.v_subA, M.v_lt, M.v_le, M.v_gt, M.v_ge, M.v_int, M.v_lenL, M.v_lenT, M.v_lenZ, M.v_abs, M.v_max, M.v_min, M.v_neg, M.v_ixL, M.v_ixT, M.v_ixZ, M.v_cutL, M.v_cutT, M.v_tupL, M.v_tupT, M.v_lstL, M.v_lstT, M.tr_bl, M.tr_int, M.tr_lst, M.tr_tup, M.tr_non, M.env0_go, M.g_N, M.g_T, M.g_sC, M.g_sN, M.wipe0, M.wipeS, M.ge_0, M.ge_S, List.set_cons_zero, List.set_cons_succ, List.map_cons, List.map_nil, List.cons_append, List.nil_append, List.length_cons, List.length_nil, Nat.reduceAdd, Nat.reduceSub, List.replicate_succ, List.replicate_zero, Option.bind_some, String.reduceBEq, Int.reduceBEq, Bool.or_self, if_true, if_false, Bool.false_eq_true, Bool.not_true, Bool.not_false, true_and, and_true, decide_true, decide_false, Option.map_some, M.is_non_int, M.is_non_bool, M.is_non_str, M.is_non_tuple, M.is_non_list, M.is_non_dict, M.is_bl_int, M.is_bl_bool, M.is_bl_str, M.is_bl_tuple, M.is_bl_list, M.is_bl_dict, M.is_int_int, M.is_int_bool, M.is_int_str, M.is_int_tuple, M.is_int_list, M.is_int_dict, M.is_str_int, M.is_str_bool, M.is_str_str, M.is_str_tuple, M.is_str_list, M.is_str_dict, M.is_tup_int, M.is_tup_bool, M.is_tup_str, M.is_tup_tuple, M.is_tup_list, M.is_tup_dict, M.is_lst_int, M.is_lst_bool, M.is_lst_str, M.is_lst_tuple, M.is_lst_list, M.is_lst_dict, M.isn_non, M.isn_bl, M.isn_int, M.isn_str, M.isn_tup, M.isn_lst, M.str_beq, M.f_non, M.f_bl, M.f_int, M.f_str, M.fe_str, M.fe_int, M.fe_si, M.fe_is, M.in_tup, M.in_lst, M.nin_tup, M.nin_lst, M.at_0, M.at_1, M.at_2, M.at_3, M.eq_int, M.ne_int, M.eq_bl, M.eq_nil, M.eq_str, M.ne_str, List.all_cons, List.all_nil, List.any_cons, List.any_nil, Bool.and_self, Bool.or_false, Bool.false_or, Bool.or_true, Bool.true_or, Bool.and_true, Bool.true_and, Bool.and_false, Bool.false_and, beq_self_eq_true, bne_self_eq_false, M.kCe, M.kCt, M.kForT_nx, M.kForT_ct, M.kForT_bk, M.kForT_rt, M.cut_1, M.all_1, M.all_2, M.any_1, M.any_2, M.sum_1, M.sum_2, M.all_map, M.any_map, M.sum_map, M.ok_eJs, M.ok_jsN, M.ok_jsC, M.kJs, ok_eNewL, kNewL, sd_len, sd_app, htn, f1, m1, f2, f3, m2, f4]
  by_cases c1 : (0 : Int) < n3
  · by_cases c2 : ((n1 + 2 + n2 : Nat) : Int) * ports < 17
    · obtain ⟨a2, x, f5⟩ := h3 (a + 1 + 1 + 1 + 1) t.length (t ++ [.lst tn]) tn tl_g0 ft (by omega)
      rw [tl_s0] at f5
      have ad : ∀ x y z : D, oAdd (.tup [x, y]) (.tup [z]) = some (.tup [x, y, z]) := fun x y z => v_addT (by have sl : sizeLine = 16777216 := rfl; simp only [List.length_cons, List.length_nil]; omega)
      simp only [M.ok_ok, M.ok_no, M.oko_some, M.ok_eC, M.ok_eV0, M.ok_eVs, M.ok_e1, M.k1, M.ok_e2, M.k2a, M.k2, M.ok_evs0, M.ok_evs, M.kA, M.ok_eTup, M.ok_eLst, M.ok_eB, M.ok_eCall, M.kTup, M.kLst, M.kB, M.kCall, M.ok_eIf, M.kIfE, M.ok_eAnd, M.kAnd, M.ok_eOr, M.kOr, M.ok_eNot, M.kNotE, M.ok_eChain, M.kCh, M.kCh2, M.ok_tOfE, M.kTo, M.ok_tTru, M.kTru, M.ok_tAnd, M.ok_tOr, M.ok_tNot, M.kTAnd, M.kTOr, M.kTNot, M.ok_tYes, M.ok_pNo, M.ok_pSome, M.kPs, M.ok_eCut, M.kCut, M.kCut1, M.kCut2, M.ok_eDGet, M.kDg, M.kDg2, M.ok_sSeq, M.kSeq_nx, M.kSeq_rt, M.kSeq_bk, M.kSeq_ct, M.ok_sSet, M.kSet, M.ok_sAsg, M.kAsg, M.ok_sPar, M.kPar, M.ok_sDrop, M.kDrop, M.ok_sRet, M.kRet, M.ok_sRetN, M.ok_sNext, M.ok_sBrk, M.ok_sCnt, M.ok_sIf, M.kIf, M.kAug, M.kApp, M.ok_sFor, M.kFor, M.ok_fnM, M.kFn_rt, M.kFn_nx, M.ok_iS, M.kIS_lst, M.kIS_tup, M.ok_iR1, M.kR1, M.ok_iR2, M.kR2, M.ok_eLstRg, M.ok_eTupRg, M.kRg, M.ok_rg1, M.kRg1, M.ok_rg2, M.kRg2, M.kRg2b, M.ok_eM1, M.kM1, M.kM1b, M.ok_eComp, M.kComp, M.kComp1, M.ok_eComp2, M.kCompC, M.kCompB, M.ok_eDisp, M.kDisp, M.ok_sAug1, M.ok_sApp1, M.kApp1, M.kIt_nx, M.kIt_ct, M.kIt_bk, M.kIt_rt, M.v_sub, M.v_addI, M.v_addA, M.v_subA, M.v_lt, M.v_le, M.v_gt, M.v_ge, M.v_int, M.v_lenL, M.v_lenT, M.v_lenZ, M.v_abs, M.v_max, M.v_min, M.v_neg, M.v_ixL, M.v_ixT, M.v_ixZ, M.v_cutL, M.v_cutT, M.v_tupL, M.v_tupT, M.v_lstL, M.v_lstT, M.tr_bl, M.tr_int, M.tr_lst, M.tr_tup, M.tr_non, M.env0_go, M.g_N, M.g_T, M.g_sC, M.g_sN, M.wipe0, M.wipeS, M.ge_0, M.ge_S, List.set_cons_zero, List.set_cons_succ, List.map_cons, List.map_nil, List.cons_append, List.nil_append, List.length_cons, List.length_nil, Nat.reduceAdd, Nat.reduceSub, List.replicate_succ, List.replicate_zero, Option.bind_some, String.reduceBEq, Int.reduceBEq, Bool.or_self, if_true, if_false, Bool.false_eq_true, Bool.not_true, Bool.not_false, true_and, and_true, decide_true, decide_false, Option.map_some, M.is_non_int, M.is_non_bool, M.is_non_str, M.is_non_tuple, M.is_non_list, M.is_non_dict, M.is_bl_int, M.is_bl_bool, M.is_bl_str, M.is_bl_tuple, M.is_bl_list, M.is_bl_dict, M.is_int_int, M.is_int_bool, M.is_int_str, M.is_int_tuple, M.is_int_list, M.is_int_dict, M.is_str_int, M.is_str_bool, M.is_str_str, M.is_str_tuple, M.is_str_list, M.is_str_dict, M.is_tup_int, M.is_tup_bool, M.is_tup_str, M.is_tup_tuple, M.is_tup_list, M.is_tup_dict, M.is_lst_int, M.is_lst_bool, M.is_lst_str, M.is_lst_tuple, M.is_lst_list, M.is_lst_dict, M.isn_non, M.isn_bl, M.isn_int, M.isn_str, M.isn_tup, M.isn_lst, M.str_beq, M.f_non, M.f_bl, M.f_int, M.f_str, M.fe_str, M.fe_int, M.fe_si, M.fe_is, M.in_tup, M.in_lst, M.nin_tup, M.nin_lst, M.at_0, M.at_1, M.at_2, M.at_3, M.eq_int, M.ne_int, M.eq_bl, M.eq_nil, M.eq_str, M.ne_str, List.all_cons, List.all_nil, List.any_cons, List.any_nil, Bool.and_self, Bool.or_false, Bool.false_or, Bool.or_true, Bool.true_or, Bool.and_true, Bool.true_and, Bool.and_false, Bool.false_and, beq_self_eq_true, bne_self_eq_false, M.kCe, M.kCt, M.kForT_nx, M.kForT_ct, M.kForT_bk, M.kForT_rt, M.cut_1, M.all_1, M.all_2, M.any_1, M.any_2, M.sum_1, M.sum_2, M.all_map, M.any_map, M.sum_map, M.ok_eJs, M.ok_jsN, M.ok_jsC, M.kJs, c1, mu, c2]
      rw [f5, ok_ok, kA, ok_evs, ok_eC, kA, ok_evs0, kTup, kA, ok_evs0, kTup, k2, ad, oko_some, kSet, kSeq_nx]
      simp only [List.set_cons_succ, List.set_cons_zero]
      exact fin _ _ _ _ fun a' t' net hn => ⟨a', t', _, net, hn, rfl, rfl⟩
    · simp only [M.ok_ok, M.ok_no, M.oko_some, M.ok_eC, M.ok_eV0, M.ok_eVs, M.ok_e1, M.k1, M.ok_e2, M.k2a, M.k2, M.ok_evs0, M.ok_evs, M.kA, M.ok_eTup, M.ok_eLst, M.ok_eB, M.ok_eCall, M.kTup, M.kLst, M.kB, M.kCall, M.ok_eIf, M.kIfE, M.ok_eAnd, M.kAnd, M.ok_eOr, M.kOr, M.ok_eNot, M.kNotE, M.ok_eChain, M.kCh, M.kCh2, M.ok_tOfE, M.kTo, M.ok_tTru, M.kTru, M.ok_tAnd, M.ok_tOr, M.ok_tNot, M.kTAnd, M.kTOr, M.kTNot, M.ok_tYes, M.ok_pNo, M.ok_pSome, M.kPs, M.ok_eCut, M.kCut, M.kCut1, M.kCut2, M.ok_eDGet, M.kDg, M.kDg2, M.ok_sSeq, M.kSeq_nx, M.kSeq_rt, M.kSeq_bk, M.kSeq_ct, M.ok_sSet, M.kSet, M.ok_sAsg, M.kAsg, M.ok_sPar, M.kPar, M.ok_sDrop, M.kDrop, M.ok_sRet, M.kRet, M.ok_sRetN, M.ok_sNext, M.ok_sBrk, M.ok_sCnt, M.ok_sIf, M.kIf, M.kAug, M.kApp, M.ok_sFor, M.kFor, M.ok_fnM, M.kFn_rt, M.kFn_nx, M.ok_iS, M.kIS_lst, M.kIS_tup, M.ok_iR1, M.kR1, M.ok_iR2, M.kR2, M.ok_eLstRg, M.ok_eTupRg, M.kRg, M.ok_rg1, M.kRg1, M.ok_rg2, M.kRg2, M.kRg2b, M.ok_eM1, M.kM1, M.kM1b, M.ok_eComp, M.kComp, M.kComp1, M.ok_eComp2, M.kCompC, M.kCompB, M.ok_eDisp, M.kDisp, M.ok_sAug1, M.ok_sApp1, M.kApp1, M.kIt_nx, M.kIt_ct, M.kIt_bk, M.kIt_rt, M.v_sub, M.v_addI, M.v_addA, M.v_subA, M.v_lt, M.v_le, M.v_gt, M.v_ge, M.v_int, M.v_lenL, M.v_lenT, M.v_lenZ, M.v_abs, M.v_max, M.v_min, M.v_neg, M.v_ixL, M.v_ixT, M.v_ixZ, M.v_cutL, M.v_cutT, M.v_tupL, M.v_tupT, M.v_lstL, M.v_lstT, M.tr_bl, M.tr_int, M.tr_lst, M.tr_tup, M.tr_non, M.env0_go, M.g_N, M.g_T, M.g_sC, M.g_sN, M.wipe0, M.wipeS, M.ge_0, M.ge_S, List.set_cons_zero, List.set_cons_succ, List.map_cons, List.map_nil, List.cons_append, List.nil_append, List.length_cons, List.length_nil, Nat.reduceAdd, Nat.reduceSub, List.replicate_succ, List.replicate_zero, Option.bind_some, String.reduceBEq, Int.reduceBEq, Bool.or_self, if_true, if_false, Bool.false_eq_true, Bool.not_true, Bool.not_false, true_and, and_true, decide_true, decide_false, Option.map_some, M.is_non_int, M.is_non_bool, M.is_non_str, M.is_non_tuple, M.is_non_list, M.is_non_dict, M.is_bl_int, M.is_bl_bool, M.is_bl_str, M.is_bl_tuple, M.is_bl_list, M.is_bl_dict, M.is_int_int, M.is_int_bool, M.is_int_str, M.is_int_tuple, M.is_int_list, M.is_int_dict, M.is_str_int, M.is_str_bool, M.is_str_str, M.is_str_tuple, M.is_str_list, M.is_str_dict, M.is_tup_int, M.is_tup_bool, M.is_tup_str, M.is_tup_tuple, M.is_tup_list, M.is_tup_dict, M.is_lst_int, M.is_lst_bool, M.is_lst_str, M.is_lst_tuple, M.is_lst_list, M.is_lst_dict, M.isn_non, M.isn_bl, M.isn_int, M.isn_str, M.isn_tup, M.isn_lst, M.str_beq, M.f_non, M.f_bl, M.f_int, M.f_str, M.fe_str, M.fe_int, M.fe_si, M.fe_is, M.in_tup, M.in_lst, M.nin_tup, M.nin_lst, M.at_0, M.at_1, M.at_2, M.at_3, M.eq_int, M.ne_int, M.eq_bl, M.eq_nil, M.eq_str, M.ne_str, List.all_cons, List.all_nil, List.any_cons, List.any_nil, Bool.and_self, Bool.or_false, Bool.false_or, Bool.or_true, Bool.true_or, Bool.and_true, Bool.true_and, Bool.and_false, Bool.false_and, beq_self_eq_true, bne_self_eq_false, M.kCe, M.kCt, M.kForT_nx, M.kForT_ct, M.kForT_bk, M.kForT_rt, M.cut_1, M.all_1, M.all_2, M.any_1, M.any_2, M.sum_1, M.sum_2, M.all_map, M.any_map, M.sum_map, M.ok_eJs, M.ok_jsN, M.ok_jsC, M.kJs, c1, mu, c2]
      exact fin _ _ _ _ fun a' t' net hn => ⟨a', t', _, net, hn, rfl, rfl⟩
  · simp only [M.ok_ok, M.ok_no, M.oko_some, M.ok_eC, M.ok_eV0, M.ok_eVs, M.ok_e1, M.k1, M.ok_e2, M.k2a, M.k2, M.ok_evs0, M.ok_evs, M.kA, M.ok_eTup, M.ok_eLst, M.ok_eB, M.ok_eCall, M.kTup, M.kLst, M.kB, M.kCall, M.ok_eIf, M.kIfE, M.ok_eAnd, M.kAnd, M.ok_eOr, M.kOr, M.ok_eNot, M.kNotE, M.ok_eChain, M.kCh, M.kCh2, M.ok_tOfE, M.kTo, M.ok_tTru, M.kTru, M.ok_tAnd, M.ok_tOr, M.ok_tNot, M.kTAnd, M.kTOr, M.kTNot, M.ok_tYes, M.ok_pNo, M.ok_pSome, M.kPs, M.ok_eCut, M.kCut, M.kCut1, M.kCut2, M.ok_eDGet, M.kDg, M.kDg2, M.ok_sSeq, M.kSeq_nx, M.kSeq_rt, M.kSeq_bk, M.kSeq_ct, M.ok_sSet, M.kSet, M.ok_sAsg, M.kAsg, M.ok_sPar, M.kPar, M.ok_sDrop, M.kDrop, M.ok_sRet, M.kRet, M.ok_sRetN, M.ok_sNext, M.ok_sBrk, M.ok_sCnt, M.ok_sIf, M.kIf, M.kAug, M.kApp, M.ok_sFor, M.kFor, M.ok_fnM, M.kFn_rt, M.kFn_nx, M.ok_iS, M.kIS_lst, M.kIS_tup, M.ok_iR1, M.kR1, M.ok_iR2, M.kR2, M.ok_eLstRg, M.ok_eTupRg, M.kRg, M.ok_rg1, M.kRg1, M.ok_rg2, M.kRg2, M.kRg2b, M.ok_eM1, M.kM1, M.kM1b, M.ok_eComp, M.kComp, M.kComp1, M.ok_eComp2, M.kCompC, M.kCompB, M.ok_eDisp, M.kDisp, M.ok_sAug1, M.ok_sApp1, M.kApp1, M.kIt_nx, M.kIt_ct, M.kIt_bk, M.kIt_rt, M.v_sub, M.v_addI, M.v_addA, M.v_subA, M.v_lt, M.v_le, M.v_gt, M.v_ge, M.v_int, M.v_lenL, M.v_lenT, M.v_lenZ, M.v_abs, M.v_max, M.v_min, M.v_neg, M.v_ixL, M.v_ixT, M.v_ixZ, M.v_cutL, M.v_cutT, M.v_tupL, M.v_tupT, M.v_lstL, M.v_lstT, M.tr_bl, M.tr_int, M.tr_lst, M.tr_tup, M.tr_non, M.env0_go, M.g_N, M.g_T, M.g_sC, M.g_sN, M.wipe0, M.wipeS, M.ge_0, M.ge_S, List.set_cons_zero, List.set_cons_succ, List.map_cons, List.map_nil, List.cons_append, List.nil_append, List.length_cons, List.length_nil, Nat.reduceAdd, Nat.reduceSub, List.replicate_succ, List.replicate_zero, Option.bind_some, String.reduceBEq, Int.reduceBEq, Bool.or_self, if_true, if_false, Bool.false_eq_true, Bool.not_true, Bool.not_false, true_and, and_true, decide_true, decide_false, Option.map_some, M.is_non_int, M.is_non_bool, M.is_non_str, M.is_non_tuple, M.is_non_list, M.is_non_dict, M.is_bl_int, M.is_bl_bool, M.is_bl_str, M.is_bl_tuple, M.is_bl_list, M.is_bl_dict, M.is_int_int, M.is_int_bool, M.is_int_str, M.is_int_tuple, M.is_int_list, M.is_int_dict, M.is_str_int, M.is_str_bool, M.is_str_str, M.is_str_tuple, M.is_str_list, M.is_str_dict, M.is_tup_int, M.is_tup_bool, M.is_tup_str, M.is_tup_tuple, M.is_tup_list, M.is_tup_dict, M.is_lst_int, M.is_lst_bool, M.is_lst_str, M.is_lst_tuple, M.is_lst_list, M.is_lst_dict, M.isn_non, M.isn_bl, M.isn_int, M.isn_str, M.isn_tup, M.isn_lst, M.str_beq, M.f_non, M.f_bl, M.f_int, M.f_str, M.fe_str, M.fe_int, M.fe_si, M.fe_is, M.in_tup, M.in_lst, M.nin_tup, M.nin_lst, M.at_0, M.at_1, M.at_2, M.at_3, M.eq_int, M.ne_int, M.eq_bl, M.eq_nil, M.eq_str, M.ne_str, List.all_cons, List.all_nil, List.any_cons, List.any_nil, Bool.and_self, Bool.or_false, Bool.false_or, Bool.or_true, Bool.true_or, Bool.and_true, Bool.true_and, Bool.and_false, Bool.false_and, beq_self_eq_true, bne_self_eq_false, M.kCe, M.kCt, M.kForT_nx, M.kForT_ct, M.kForT_bk, M.kForT_rt, M.cut_1, M.all_1, M.all_2, M.any_1, M.any_2, M.sum_1, M.sum_2, M.all_map, M.any_map, M.sum_map, M.ok_eJs, M.ok_jsN, M.ok_jsC, M.kJs, c1]
    exact fin _ _ _ _ fun a' t' net hn => ⟨a', t', _, net, hn, rfl, rfl⟩
end
end M
/-! P11: draws are below 997. -/
namespace M
open PySem PySem.Spec PyProof.Rows L2
def In9 (xs : List Int) : Prop := ∀ x ∈ xs, 0 ≤ x ∧ x < 997
theorem In9.nil : In9 [] := fun _ h => absurd h List.not_mem_nil
theorem In9.snoc {xs : List Int} {c : Int} (h : In9 xs) : In9 (xs ++ [c % 997]) := fun x hx => by
  rcases List.mem_append.mp hx with hx | hx
  · exact h x hx
  · rw [List.mem_singleton.mp hx]; omega
theorem In9.cut {xs : List Int} {a b : Option Int} (h : In9 xs) : In9 (cutG xs a b) := fun x hx => h x (List.mem_of_mem_drop (List.mem_of_mem_take hx))
theorem nxt_9 {xs : List Int} {a : Nat} {m : Int} (h : In9 xs) (hm : 0 < m) : nxt xs a m < 997 := by
  unfold nxt
  split
  · rename_i hl
    have := h _ (List.getElem_mem hl)
    rw [List.getD_eq_getElem?_getD, List.getElem?_eq_getElem hl, Option.getD_some]
    by_cases c : xs[a] < m
    · rw [Int.emod_eq_of_lt this.1 c]; exact this.2
    · have := Int.emod_lt_of_pos xs[a] hm; omega
  · decide
theorem draws_in {ns : List Int} {m : Nat} {s : Sto} (hn : ns.length ≤ 63) (hm : m ≤ 100000) : ∃ xs : List Int, In9 xs ∧ fnM 8 DRAWS [.scr ns, .int m] s = .ok (.lst (xs.map .int)) s := by
  suffices h : Ok (fnM 8 DRAWS [.scr ns, .int m] s) fun v s' => ∃ xs : List Int, In9 xs ∧ v = .lst (xs.map .int) ∧ s' = s by
    obtain ⟨v, s', e, xs, hx, rfl, rfl⟩ := h.get
    exact ⟨xs, hx, e⟩
  unfold DRAWS
  have sl : sizeLine = 16777216 := rfl
  simp only [M.ok_ok, M.ok_no, M.oko_some, M.ok_eC, M.ok_eV0, M.ok_eVs, M.ok_e1, M.k1, M.ok_e2, M.k2a, M.k2, M.ok_evs0, M.ok_evs, M.kA, M.ok_eTup, M.ok_eLst, M.ok_eB, M.ok_eCall, M.kTup, M.kLst, M.kB, M.kCall, M.ok_eIf, M.kIfE, M.ok_eAnd, M.kAnd, M.ok_eOr, M.kOr, M.ok_eNot, M.kNotE, M.ok_eChain, M.kCh, M.kCh2, M.ok_tOfE, M.kTo, M.ok_tTru, M.kTru, M.ok_tAnd, M.ok_tOr, M.ok_tNot, M.kTAnd, M.kTOr, M.kTNot, M.ok_tYes, M.ok_pNo, M.ok_pSome, M.kPs, M.ok_eCut, M.kCut, M.kCut1, M.kCut2, M.ok_eDGet, M.kDg, M.kDg2, M.ok_sSeq, M.kSeq_nx, M.kSeq_rt, M.kSeq_bk, M.kSeq_ct, M.ok_sSet, M.kSet, M.ok_sAsg, M.kAsg, M.ok_sPar, M.kPar, M.ok_sDrop, M.kDrop, M.ok_sRet, M.kRet, M.ok_sRetN, M.ok_sNext, M.ok_sBrk, M.ok_sCnt, M.ok_sIf, M.kIf, M.kAug, M.kApp, M.ok_sFor, M.kFor, M.ok_fnM, M.kFn_rt, M.kFn_nx, M.ok_iS, M.kIS_lst, M.kIS_tup, M.ok_iR1, M.kR1, M.ok_iR2, M.kR2, M.ok_eLstRg, M.ok_eTupRg, M.kRg, M.ok_rg1, M.kRg1, M.ok_rg2, M.kRg2, M.kRg2b, M.ok_eM1, M.kM1, M.kM1b, M.ok_eComp, M.kComp, M.kComp1, M.ok_eComp2, M.kCompC, M.kCompB, M.ok_eDisp, M.kDisp, M.ok_sAug1, M.ok_sApp1, M.kApp1, M.kIt_nx, M.kIt_ct, M.kIt_bk, M.kIt_rt, M.v_sub, M.v_addI, M.v_addA, M.v_subA, M.v_lt, M.v_le, M.v_gt, M.v_ge, M.v_int, M.v_lenL, M.v_lenT, M.v_lenZ, M.v_abs, M.v_max, M.v_min, M.v_neg, M.v_ixL, M.v_ixT, M.v_ixZ, M.v_cutL, M.v_cutT, M.v_tupL, M.v_tupT, M.v_lstL, M.v_lstT, M.tr_bl, M.tr_int, M.tr_lst, M.tr_tup, M.tr_non, M.env0_go, M.g_N, M.g_T, M.g_sC, M.g_sN, M.wipe0, M.wipeS, M.ge_0, M.ge_S, List.set_cons_zero, List.set_cons_succ, List.map_cons, List.map_nil, List.cons_append, List.nil_append, List.length_cons, List.length_nil, Nat.reduceAdd, Nat.reduceSub, List.replicate_succ, List.replicate_zero, Option.bind_some, String.reduceBEq, Int.reduceBEq, Bool.or_self, if_true, if_false, Bool.false_eq_true, Bool.not_true, Bool.not_false, true_and, and_true, decide_true, decide_false, Option.map_some, M.is_non_int, M.is_non_bool, M.is_non_str, M.is_non_tuple, M.is_non_list, M.is_non_dict, M.is_bl_int, M.is_bl_bool, M.is_bl_str, M.is_bl_tuple, M.is_bl_list, M.is_bl_dict, M.is_int_int, M.is_int_bool, M.is_int_str, M.is_int_tuple, M.is_int_list, M.is_int_dict, M.is_str_int, M.is_str_bool, M.is_str_str, M.is_str_tuple, M.is_str_list, M.is_str_dict, M.is_tup_int, M.is_tup_bool, M.is_tup_str, M.is_tup_tuple, M.is_tup_list, M.is_tup_dict, M.is_lst_int, M.is_lst_bool, M.is_lst_str, M.is_lst_tuple, M.is_lst_list, M.is_lst_dict, M.isn_non, M.isn_bl, M.isn_int, M.isn_str, M.isn_tup, M.isn_lst, M.str_beq, M.f_non, M.f_bl, M.f_int, M.f_str, M.fe_str, M.fe_int, M.fe_si, M.fe_is, M.in_tup, M.in_lst, M.nin_tup, M.nin_lst, M.at_0, M.at_1, M.at_2, M.at_3, M.eq_int, M.ne_int, M.eq_bl, M.eq_nil, M.eq_str, M.ne_str, List.all_cons, List.all_nil, List.any_cons, List.any_nil, Bool.and_self, Bool.or_false, Bool.false_or, Bool.or_true, Bool.true_or, Bool.and_true, Bool.true_and, Bool.and_false, Bool.false_and, beq_self_eq_true, bne_self_eq_false, M.ok_comp0, M.ok_compS, M.kCe, M.kCt, M.forD_nil, M.forD_cons, M.kForT_nx, M.kForT_ct, M.kForT_bk, M.kForT_rt, M.cut_1, M.all_1, M.all_2, M.any_1, M.any_2, M.sum_1, M.sum_2, M.all_map, M.any_map, M.sum_map, M.ok_eJs, M.ok_jsN, M.ok_jsC, M.kJs]
  refine ⟨by omega, ?_⟩
  refine for_rng (fun i ρ s' => s' = s ∧ ∃ (xs : List Int) (x : Int) (o4 o5 o6 o7 : Option D), ρ = [some (.scr ns), some (.int m), some (.lst (xs.map .int)), some (.int x), o4, o5, o6, o7] ∧ 0 ≤ x ∧ x < 65537 ∧ xs.length ≤ 62 * i ∧ In9 xs) ⟨rfl, [], 7, _, _, _, _, rfl, by omega, by omega, by simp, In9.nil⟩ ?_ ?_
  · rintro i ρ s' hi ⟨rfl, xs, x, o4, o5, o6, o7, rfl, h0, h1, h2, h9⟩
    have hi' : i < ns.length := by omega
    have e0 : (0 : Int) + (i : Nat) = (i : Nat) := by omega
    generalize hc : (if ns[i] < 0 then -ns[i] else ns[i]) = c
    have hc0 : 0 ≤ c := by rw [← hc]; split <;> omega
    simp only [M.ok_ok, M.ok_no, M.oko_some, M.ok_eC, M.ok_eV0, M.ok_eVs, M.ok_e1, M.k1, M.ok_e2, M.k2a, M.k2, M.ok_evs0, M.ok_evs, M.kA, M.ok_eTup, M.ok_eLst, M.ok_eB, M.ok_eCall, M.kTup, M.kLst, M.kB, M.kCall, M.ok_eIf, M.kIfE, M.ok_eAnd, M.kAnd, M.ok_eOr, M.kOr, M.ok_eNot, M.kNotE, M.ok_eChain, M.kCh, M.kCh2, M.ok_tOfE, M.kTo, M.ok_tTru, M.kTru, M.ok_tAnd, M.ok_tOr, M.ok_tNot, M.kTAnd, M.kTOr, M.kTNot, M.ok_tYes, M.ok_pNo, M.ok_pSome, M.kPs, M.ok_eCut, M.kCut, M.kCut1, M.kCut2, M.ok_eDGet, M.kDg, M.kDg2, M.ok_sSeq, M.kSeq_nx, M.kSeq_rt, M.kSeq_bk, M.kSeq_ct, M.ok_sSet, M.kSet, M.ok_sAsg, M.kAsg, M.ok_sPar, M.kPar, M.ok_sDrop, M.kDrop, M.ok_sRet, M.kRet, M.ok_sRetN, M.ok_sNext, M.ok_sBrk, M.ok_sCnt, M.ok_sIf, M.kIf, M.kAug, M.kApp, M.ok_sFor, M.kFor, M.ok_fnM, M.kFn_rt, M.kFn_nx, M.ok_iS, M.kIS_lst, M.kIS_tup, M.ok_iR1, M.kR1, M.ok_iR2, M.kR2, M.ok_eLstRg, M.ok_eTupRg, M.kRg, M.ok_rg1, M.kRg1, M.ok_rg2, M.kRg2, M.kRg2b, M.ok_eM1, M.kM1, M.kM1b, M.ok_eComp, M.kComp, M.kComp1, M.ok_eComp2, M.kCompC, M.kCompB, M.ok_eDisp, M.kDisp, M.ok_sAug1, M.ok_sApp1, M.kApp1, M.kIt_nx, M.kIt_ct, M.kIt_bk, M.kIt_rt, M.v_sub, M.v_addI, M.v_addA, M.v_subA, M.v_lt, M.v_le, M.v_gt, M.v_ge, M.v_int, M.v_lenL, M.v_lenT, M.v_lenZ, M.v_abs, M.v_max, M.v_min, M.v_neg, M.v_ixL, M.v_ixT, M.v_ixZ, M.v_cutL, M.v_cutT, M.v_tupL, M.v_tupT, M.v_lstL, M.v_lstT, M.tr_bl, M.tr_int, M.tr_lst, M.tr_tup, M.tr_non, M.env0_go, M.g_N, M.g_T, M.g_sC, M.g_sN, M.wipe0, M.wipeS, M.ge_0, M.ge_S, List.set_cons_zero, List.set_cons_succ, List.map_cons, List.map_nil, List.cons_append, List.nil_append, List.length_cons, List.length_nil, Nat.reduceAdd, Nat.reduceSub, List.replicate_succ, List.replicate_zero, Option.bind_some, String.reduceBEq, Int.reduceBEq, Bool.or_self, if_true, if_false, Bool.false_eq_true, Bool.not_true, Bool.not_false, true_and, and_true, decide_true, decide_false, Option.map_some, M.is_non_int, M.is_non_bool, M.is_non_str, M.is_non_tuple, M.is_non_list, M.is_non_dict, M.is_bl_int, M.is_bl_bool, M.is_bl_str, M.is_bl_tuple, M.is_bl_list, M.is_bl_dict, M.is_int_int, M.is_int_bool, M.is_int_str, M.is_int_tuple, M.is_int_list, M.is_int_dict, M.is_str_int, M.is_str_bool, M.is_str_str, M.is_str_tuple, M.is_str_list, M.is_str_dict, M.is_tup_int, M.is_tup_bool, M.is_tup_str, M.is_tup_tuple, M.is_tup_list, M.is_tup_dict, M.is_lst_int, M.is_lst_bool, M.is_lst_str, M.is_lst_tuple, M.is_lst_list, M.is_lst_dict, M.isn_non, M.isn_bl, M.isn_int, M.isn_str, M.isn_tup, M.isn_lst, M.str_beq, M.f_non, M.f_bl, M.f_int, M.f_str, M.fe_str, M.fe_int, M.fe_si, M.fe_is, M.in_tup, M.in_lst, M.nin_tup, M.nin_lst, M.at_0, M.at_1, M.at_2, M.at_3, M.eq_int, M.ne_int, M.eq_bl, M.eq_nil, M.eq_str, M.ne_str, List.all_cons, List.all_nil, List.any_cons, List.any_nil, Bool.and_self, Bool.or_false, Bool.false_or, Bool.or_true, Bool.true_or, Bool.and_true, Bool.true_and, Bool.and_false, Bool.false_and, beq_self_eq_true, bne_self_eq_false, M.ok_comp0, M.ok_compS, M.kCe, M.kCt, M.forD_nil, M.forD_cons, M.kForT_nx, M.kForT_ct, M.kForT_bk, M.kForT_rt, M.cut_1, M.all_1, M.all_2, M.any_1, M.any_2, M.sum_1, M.sum_2, M.all_map, M.any_map, M.sum_map, M.ok_eJs, M.ok_jsN, M.ok_jsC, M.kJs, e0, atI_nat hi', hc, v_mul (show (-(2 ^ 64) : Int) < x by omega) (show x < 2 ^ 64 by omega) (show (-(2 ^ 64) : Int) < 48271 by decide) (show (48271 : Int) < 2 ^ 64 by decide), v_mod (show (0 : Int) < 1000003 by decide), v_mod (show (0 : Int) < 65537 by decide), v_pow (show (-(2 ^ 64) : Int) < 10 by decide) (show (10 : Int) < 2 ^ 64 by decide) (show (0 : Int) ≤ 18 by decide) (show (18 : Int) ≤ 1000000 by decide)]
    generalize hy : (x * 48271 + c % 1000003 + (i : Nat)) % 65537 = y
    have hy0 : 0 ≤ y := by omega
    have hy1 : y < 65537 := by omega
    have mid : ∀ (zs : List Int) (r : Int), In9 zs → 0 ≤ r → ((r = 0 ∧ zs.length ≤ 62 * i + 2) ∨ zs.length ≤ 62 * i) → Ok (forD (gN 7) (sIf (tOfE (e2 oGt (eV 6) (eC (.int 0)))) (sSeq (sApp 2 (e2 oMod (eB oInt [(eV 6)]) (eC (.int 997)))) (sSet 6 (e2 oDiv (eV 6) (eC (.int 997))))) sNext) (rngD 0 (60 : Int).toNat)
        [some (.scr ns), some (.int m), some (.lst (zs.map .int)), some (.int y), some (.int i), some (.int c), some (.int r), o7] s')
        fun o s2 => s2 = s' ∧ ∃ (xs : List Int) (o5 o6 o7 : Option D), o = .nx [some (.scr ns), some (.int m), some (.lst (xs.map .int)), some (.int y), some (.int i), o5, o6, o7] ∧ xs.length ≤ 62 * (i + 1) ∧ In9 xs := by
      intro zs r hz9 hr hz
      refine for_rng (fun j ρ s2 => s2 = s' ∧ ∃ (zs : List Int) (r : Int) (o7 : Option D), ρ = [some (.scr ns), some (.int m), some (.lst (zs.map .int)), some (.int y), some (.int i), some (.int c), some (.int r), o7] ∧ In9 zs ∧ 0 ≤ r ∧ ((r = 0 ∧ zs.length ≤ 62 * (i + 1)) ∨ zs.length ≤ 62 * i + j)) ⟨rfl, zs, r, o7, rfl, hz9, hr, by omega⟩ ?_ ?_
      · rintro j ρ s2 hj ⟨rfl, zs, r, o7, rfl, hz9, h0, h1⟩
        have hj' : j < 60 := hj
        simp only [M.ok_ok, M.ok_no, M.oko_some, M.ok_eC, M.ok_eV0, M.ok_eVs, M.ok_e1, M.k1, M.ok_e2, M.k2a, M.k2, M.ok_evs0, M.ok_evs, M.kA, M.ok_eTup, M.ok_eLst, M.ok_eB, M.ok_eCall, M.kTup, M.kLst, M.kB, M.kCall, M.ok_eIf, M.kIfE, M.ok_eAnd, M.kAnd, M.ok_eOr, M.kOr, M.ok_eNot, M.kNotE, M.ok_eChain, M.kCh, M.kCh2, M.ok_tOfE, M.kTo, M.ok_tTru, M.kTru, M.ok_tAnd, M.ok_tOr, M.ok_tNot, M.kTAnd, M.kTOr, M.kTNot, M.ok_tYes, M.ok_pNo, M.ok_pSome, M.kPs, M.ok_eCut, M.kCut, M.kCut1, M.kCut2, M.ok_eDGet, M.kDg, M.kDg2, M.ok_sSeq, M.kSeq_nx, M.kSeq_rt, M.kSeq_bk, M.kSeq_ct, M.ok_sSet, M.kSet, M.ok_sAsg, M.kAsg, M.ok_sPar, M.kPar, M.ok_sDrop, M.kDrop, M.ok_sRet, M.kRet, M.ok_sRetN, M.ok_sNext, M.ok_sBrk, M.ok_sCnt, M.ok_sIf, M.kIf, M.kAug, M.kApp, M.ok_sFor, M.kFor, M.ok_fnM, M.kFn_rt, M.kFn_nx, M.ok_iS, M.kIS_lst, M.kIS_tup, M.ok_iR1, M.kR1, M.ok_iR2, M.kR2, M.ok_eLstRg, M.ok_eTupRg, M.kRg, M.ok_rg1, M.kRg1, M.ok_rg2, M.kRg2, M.kRg2b, M.ok_eM1, M.kM1, M.kM1b, M.ok_eComp, M.kComp, M.kComp1, M.ok_eComp2, M.kCompC, M.kCompB, M.ok_eDisp, M.kDisp, M.ok_sAug1, M.ok_sApp1, M.kApp1, M.kIt_nx, M.kIt_ct, M.kIt_bk, M.kIt_rt, M.v_sub, M.v_addI, M.v_addA, M.v_subA, M.v_lt, M.v_le, M.v_gt, M.v_ge, M.v_int, M.v_lenL, M.v_lenT, M.v_lenZ, M.v_abs, M.v_max, M.v_min, M.v_neg, M.v_ixL, M.v_ixT, M.v_ixZ, M.v_cutL, M.v_cutT, M.v_tupL, M.v_tupT, M.v_lstL, M.v_lstT, M.tr_bl, M.tr_int, M.tr_lst, M.tr_tup, M.tr_non, M.env0_go, M.g_N, M.g_T, M.g_sC, M.g_sN, M.wipe0, M.wipeS, M.ge_0, M.ge_S, List.set_cons_zero, List.set_cons_succ, List.map_cons, List.map_nil, List.cons_append, List.nil_append, List.length_cons, List.length_nil, Nat.reduceAdd, Nat.reduceSub, List.replicate_succ, List.replicate_zero, Option.bind_some, String.reduceBEq, Int.reduceBEq, Bool.or_self, if_true, if_false, Bool.false_eq_true, Bool.not_true, Bool.not_false, true_and, and_true, decide_true, decide_false, Option.map_some, M.is_non_int, M.is_non_bool, M.is_non_str, M.is_non_tuple, M.is_non_list, M.is_non_dict, M.is_bl_int, M.is_bl_bool, M.is_bl_str, M.is_bl_tuple, M.is_bl_list, M.is_bl_dict, M.is_int_int, M.is_int_bool, M.is_int_str, M.is_int_tuple, M.is_int_list, M.is_int_dict, M.is_str_int, M.is_str_bool, M.is_str_str, M.is_str_tuple, M.is_str_list, M.is_str_dict, M.is_tup_int, M.is_tup_bool, M.is_tup_str, M.is_tup_tuple, M.is_tup_list, M.is_tup_dict, M.is_lst_int, M.is_lst_bool, M.is_lst_str, M.is_lst_tuple, M.is_lst_list, M.is_lst_dict, M.isn_non, M.isn_bl, M.isn_int, M.isn_str, M.isn_tup, M.isn_lst, M.str_beq, M.f_non, M.f_bl, M.f_int, M.f_str, M.fe_str, M.fe_int, M.fe_si, M.fe_is, M.in_tup, M.in_lst, M.nin_tup, M.nin_lst, M.at_0, M.at_1, M.at_2, M.at_3, M.eq_int, M.ne_int, M.eq_bl, M.eq_nil, M.eq_str, M.ne_str, List.all_cons, List.all_nil, List.any_cons, List.any_nil, Bool.and_self, Bool.or_false, Bool.false_or, Bool.or_true, Bool.true_or, Bool.and_true, Bool.true_and, Bool.and_false, Bool.false_and, beq_self_eq_true, bne_self_eq_false, M.ok_comp0, M.ok_compS, M.kCe, M.kCt, M.forD_nil, M.forD_cons, M.kForT_nx, M.kForT_ct, M.kForT_bk, M.kForT_rt, M.cut_1, M.all_1, M.all_2, M.any_1, M.any_2, M.sum_1, M.sum_2, M.all_map, M.any_map, M.sum_map, M.ok_eJs, M.ok_jsN, M.ok_jsC, M.kJs]
        by_cases hr : 0 < r
        · simp only [M.ok_ok, M.ok_no, M.oko_some, M.ok_eC, M.ok_eV0, M.ok_eVs, M.ok_e1, M.k1, M.ok_e2, M.k2a, M.k2, M.ok_evs0, M.ok_evs, M.kA, M.ok_eTup, M.ok_eLst, M.ok_eB, M.ok_eCall, M.kTup, M.kLst, M.kB, M.kCall, M.ok_eIf, M.kIfE, M.ok_eAnd, M.kAnd, M.ok_eOr, M.kOr, M.ok_eNot, M.kNotE, M.ok_eChain, M.kCh, M.kCh2, M.ok_tOfE, M.kTo, M.ok_tTru, M.kTru, M.ok_tAnd, M.ok_tOr, M.ok_tNot, M.kTAnd, M.kTOr, M.kTNot, M.ok_tYes, M.ok_pNo, M.ok_pSome, M.kPs, M.ok_eCut, M.kCut, M.kCut1, M.kCut2, M.ok_eDGet, M.kDg, M.kDg2, M.ok_sSeq, M.kSeq_nx, M.kSeq_rt, M.kSeq_bk, M.kSeq_ct, M.ok_sSet, M.kSet, M.ok_sAsg, M.kAsg, M.ok_sPar, M.kPar, M.ok_sDrop, M.kDrop, M.ok_sRet, M.kRet, M.ok_sRetN, M.ok_sNext, M.ok_sBrk, M.ok_sCnt, M.ok_sIf, M.kIf, M.kAug, M.kApp, M.ok_sFor, M.kFor, M.ok_fnM, M.kFn_rt, M.kFn_nx, M.ok_iS, M.kIS_lst, M.kIS_tup, M.ok_iR1, M.kR1, M.ok_iR2, M.kR2, M.ok_eLstRg, M.ok_eTupRg, M.kRg, M.ok_rg1, M.kRg1, M.ok_rg2, M.kRg2, M.kRg2b, M.ok_eM1, M.kM1, M.kM1b, M.ok_eComp, M.kComp, M.kComp1, M.ok_eComp2, M.kCompC, M.kCompB, M.ok_eDisp, M.kDisp, M.ok_sAug1, M.ok_sApp1, M.kApp1, M.kIt_nx, M.kIt_ct, M.kIt_bk, M.kIt_rt, M.v_sub, M.v_addI, M.v_addA, M.v_subA, M.v_lt, M.v_le, M.v_gt, M.v_ge, M.v_int, M.v_lenL, M.v_lenT, M.v_lenZ, M.v_abs, M.v_max, M.v_min, M.v_neg, M.v_ixL, M.v_ixT, M.v_ixZ, M.v_cutL, M.v_cutT, M.v_tupL, M.v_tupT, M.v_lstL, M.v_lstT, M.tr_bl, M.tr_int, M.tr_lst, M.tr_tup, M.tr_non, M.env0_go, M.g_N, M.g_T, M.g_sC, M.g_sN, M.wipe0, M.wipeS, M.ge_0, M.ge_S, List.set_cons_zero, List.set_cons_succ, List.map_cons, List.map_nil, List.cons_append, List.nil_append, List.length_cons, List.length_nil, Nat.reduceAdd, Nat.reduceSub, List.replicate_succ, List.replicate_zero, Option.bind_some, String.reduceBEq, Int.reduceBEq, Bool.or_self, if_true, if_false, Bool.false_eq_true, Bool.not_true, Bool.not_false, true_and, and_true, decide_true, decide_false, Option.map_some, M.is_non_int, M.is_non_bool, M.is_non_str, M.is_non_tuple, M.is_non_list, M.is_non_dict, M.is_bl_int, M.is_bl_bool, M.is_bl_str, M.is_bl_tuple, M.is_bl_list, M.is_bl_dict, M.is_int_int, M.is_int_bool, M.is_int_str, M.is_int_tuple, M.is_int_list, M.is_int_dict, M.is_str_int, M.is_str_bool, M.is_str_str, M.is_str_tuple, M.is_str_list, M.is_str_dict, M.is_tup_int, M.is_tup_bool, M.is_tup_str, M.is_tup_tuple, M.is_tup_list, M.is_tup_dict, M.is_lst_int, M.is_lst_bool, M.is_lst_str, M.is_lst_tuple, M.is_lst_list, M.is_lst_dict, M.isn_non, M.isn_bl, M.isn_int, M.isn_str, M.isn_tup, M.isn_lst, M.str_beq, M.f_non, M.f_bl, M.f_int, M.f_str, M.fe_str, M.fe_int, M.fe_si, M.fe_is, M.in_tup, M.in_lst, M.nin_tup, M.nin_lst, M.at_0, M.at_1, M.at_2, M.at_3, M.eq_int, M.ne_int, M.eq_bl, M.eq_nil, M.eq_str, M.ne_str, List.all_cons, List.all_nil, List.any_cons, List.any_nil, Bool.and_self, Bool.or_false, Bool.false_or, Bool.or_true, Bool.true_or, Bool.and_true, Bool.true_and, Bool.and_false, Bool.false_and, beq_self_eq_true, bne_self_eq_false, M.ok_comp0, M.ok_compS, M.kCe, M.kCt, M.forD_nil, M.forD_cons, M.kForT_nx, M.kForT_ct, M.kForT_bk, M.kForT_rt, M.cut_1, M.all_1, M.all_2, M.any_1, M.any_2, M.sum_1, M.sum_2, M.all_map, M.any_map, M.sum_map, M.ok_eJs, M.ok_jsN, M.ok_jsC, M.kJs, hr, v_mod (show (0 : Int) < 997 by decide), v_div (show (0 : Int) < 997 by decide) (show (997 : Int) < 2 ^ 64 by decide), map_snoc, List.length_map]
          refine ⟨by omega, zs ++ [r % 997], r / 997, _, rfl, hz9.snoc, by omega, ?_⟩
          rw [List.length_append]
          simp only [List.length_cons, List.length_nil]
          omega
        · simp only [M.ok_ok, M.ok_no, M.oko_some, M.ok_eC, M.ok_eV0, M.ok_eVs, M.ok_e1, M.k1, M.ok_e2, M.k2a, M.k2, M.ok_evs0, M.ok_evs, M.kA, M.ok_eTup, M.ok_eLst, M.ok_eB, M.ok_eCall, M.kTup, M.kLst, M.kB, M.kCall, M.ok_eIf, M.kIfE, M.ok_eAnd, M.kAnd, M.ok_eOr, M.kOr, M.ok_eNot, M.kNotE, M.ok_eChain, M.kCh, M.kCh2, M.ok_tOfE, M.kTo, M.ok_tTru, M.kTru, M.ok_tAnd, M.ok_tOr, M.ok_tNot, M.kTAnd, M.kTOr, M.kTNot, M.ok_tYes, M.ok_pNo, M.ok_pSome, M.kPs, M.ok_eCut, M.kCut, M.kCut1, M.kCut2, M.ok_eDGet, M.kDg, M.kDg2, M.ok_sSeq, M.kSeq_nx, M.kSeq_rt, M.kSeq_bk, M.kSeq_ct, M.ok_sSet, M.kSet, M.ok_sAsg, M.kAsg, M.ok_sPar, M.kPar, M.ok_sDrop, M.kDrop, M.ok_sRet, M.kRet, M.ok_sRetN, M.ok_sNext, M.ok_sBrk, M.ok_sCnt, M.ok_sIf, M.kIf, M.kAug, M.kApp, M.ok_sFor, M.kFor, M.ok_fnM, M.kFn_rt, M.kFn_nx, M.ok_iS, M.kIS_lst, M.kIS_tup, M.ok_iR1, M.kR1, M.ok_iR2, M.kR2, M.ok_eLstRg, M.ok_eTupRg, M.kRg, M.ok_rg1, M.kRg1, M.ok_rg2, M.kRg2, M.kRg2b, M.ok_eM1, M.kM1, M.kM1b, M.ok_eComp, M.kComp, M.kComp1, M.ok_eComp2, M.kCompC, M.kCompB, M.ok_eDisp, M.kDisp, M.ok_sAug1, M.ok_sApp1, M.kApp1, M.kIt_nx, M.kIt_ct, M.kIt_bk, M.kIt_rt, M.v_sub, M.v_addI, M.v_addA, M.v_subA, M.v_lt, M.v_le, M.v_gt, M.v_ge, M.v_int, M.v_lenL, M.v_lenT, M.v_lenZ, M.v_abs, M.v_max, M.v_min, M.v_neg, M.v_ixL, M.v_ixT, M.v_ixZ, M.v_cutL, M.v_cutT, M.v_tupL, M.v_tupT, M.v_lstL, M.v_lstT, M.tr_bl, M.tr_int, M.tr_lst, M.tr_tup, M.tr_non, M.env0_go, M.g_N, M.g_T, M.g_sC, M.g_sN, M.wipe0, M.wipeS, M.ge_0, M.ge_S, List.set_cons_zero, List.set_cons_succ, List.map_cons, List.map_nil, List.cons_append, List.nil_append, List.length_cons, List.length_nil, Nat.reduceAdd, Nat.reduceSub, List.replicate_succ, List.replicate_zero, Option.bind_some, String.reduceBEq, Int.reduceBEq, Bool.or_self, if_true, if_false, Bool.false_eq_true, Bool.not_true, Bool.not_false, true_and, and_true, decide_true, decide_false, Option.map_some, M.is_non_int, M.is_non_bool, M.is_non_str, M.is_non_tuple, M.is_non_list, M.is_non_dict, M.is_bl_int, M.is_bl_bool, M.is_bl_str, M.is_bl_tuple, M.is_bl_list, M.is_bl_dict, M.is_int_int, M.is_int_bool, M.is_int_str, M.is_int_tuple, M.is_int_list, M.is_int_dict, M.is_str_int, M.is_str_bool, M.is_str_str, M.is_str_tuple, M.is_str_list, M.is_str_dict, M.is_tup_int, M.is_tup_bool, M.is_tup_str, M.is_tup_tuple, M.is_tup_list, M.is_tup_dict, M.is_lst_int, M.is_lst_bool, M.is_lst_str, M.is_lst_tuple, M.is_lst_list, M.is_lst_dict, M.isn_non, M.isn_bl, M.isn_int, M.isn_str, M.isn_tup, M.isn_lst, M.str_beq, M.f_non, M.f_bl, M.f_int, M.f_str, M.fe_str, M.fe_int, M.fe_si, M.fe_is, M.in_tup, M.in_lst, M.nin_tup, M.nin_lst, M.at_0, M.at_1, M.at_2, M.at_3, M.eq_int, M.ne_int, M.eq_bl, M.eq_nil, M.eq_str, M.ne_str, List.all_cons, List.all_nil, List.any_cons, List.any_nil, Bool.and_self, Bool.or_false, Bool.false_or, Bool.or_true, Bool.true_or, Bool.and_true, Bool.true_and, Bool.and_false, Bool.false_and, beq_self_eq_true, bne_self_eq_false, M.ok_comp0, M.ok_compS, M.kCe, M.kCt, M.forD_nil, M.forD_cons, M.kForT_nx, M.kForT_ct, M.kForT_bk, M.kForT_rt, M.cut_1, M.all_1, M.all_2, M.any_1, M.any_2, M.sum_1, M.sum_2, M.all_map, M.any_map, M.sum_map, M.ok_eJs, M.ok_jsN, M.ok_jsC, M.kJs, hr]
          exact ⟨zs, r, _, rfl, hz9, h0, by omega⟩
      · rintro ρ s2 ⟨rfl, zs, r, o7, rfl, hz9, h0, h1⟩
        have : (60 : Int).toNat = 60 := rfl
        exact ⟨rfl, zs, _, _, _, rfl, by omega, hz9⟩
    by_cases big : (10 : Int) ^ (18 : Int).toNat ≤ c
    · simp only [M.ok_ok, M.ok_no, M.oko_some, M.ok_eC, M.ok_eV0, M.ok_eVs, M.ok_e1, M.k1, M.ok_e2, M.k2a, M.k2, M.ok_evs0, M.ok_evs, M.kA, M.ok_eTup, M.ok_eLst, M.ok_eB, M.ok_eCall, M.kTup, M.kLst, M.kB, M.kCall, M.ok_eIf, M.kIfE, M.ok_eAnd, M.kAnd, M.ok_eOr, M.kOr, M.ok_eNot, M.kNotE, M.ok_eChain, M.kCh, M.kCh2, M.ok_tOfE, M.kTo, M.ok_tTru, M.kTru, M.ok_tAnd, M.ok_tOr, M.ok_tNot, M.kTAnd, M.kTOr, M.kTNot, M.ok_tYes, M.ok_pNo, M.ok_pSome, M.kPs, M.ok_eCut, M.kCut, M.kCut1, M.kCut2, M.ok_eDGet, M.kDg, M.kDg2, M.ok_sSeq, M.kSeq_nx, M.kSeq_rt, M.kSeq_bk, M.kSeq_ct, M.ok_sSet, M.kSet, M.ok_sAsg, M.kAsg, M.ok_sPar, M.kPar, M.ok_sDrop, M.kDrop, M.ok_sRet, M.kRet, M.ok_sRetN, M.ok_sNext, M.ok_sBrk, M.ok_sCnt, M.ok_sIf, M.kIf, M.kAug, M.kApp, M.ok_sFor, M.kFor, M.ok_fnM, M.kFn_rt, M.kFn_nx, M.ok_iS, M.kIS_lst, M.kIS_tup, M.ok_iR1, M.kR1, M.ok_iR2, M.kR2, M.ok_eLstRg, M.ok_eTupRg, M.kRg, M.ok_rg1, M.kRg1, M.ok_rg2, M.kRg2, M.kRg2b, M.ok_eM1, M.kM1, M.kM1b, M.ok_eComp, M.kComp, M.kComp1, M.ok_eComp2, M.kCompC, M.kCompB, M.ok_eDisp, M.kDisp, M.ok_sAug1, M.ok_sApp1, M.kApp1, M.kIt_nx, M.kIt_ct, M.kIt_bk, M.kIt_rt, M.v_sub, M.v_addI, M.v_addA, M.v_subA, M.v_lt, M.v_le, M.v_gt, M.v_ge, M.v_int, M.v_lenL, M.v_lenT, M.v_lenZ, M.v_abs, M.v_max, M.v_min, M.v_neg, M.v_ixL, M.v_ixT, M.v_ixZ, M.v_cutL, M.v_cutT, M.v_tupL, M.v_tupT, M.v_lstL, M.v_lstT, M.tr_bl, M.tr_int, M.tr_lst, M.tr_tup, M.tr_non, M.env0_go, M.g_N, M.g_T, M.g_sC, M.g_sN, M.wipe0, M.wipeS, M.ge_0, M.ge_S, List.set_cons_zero, List.set_cons_succ, List.map_cons, List.map_nil, List.cons_append, List.nil_append, List.length_cons, List.length_nil, Nat.reduceAdd, Nat.reduceSub, List.replicate_succ, List.replicate_zero, Option.bind_some, String.reduceBEq, Int.reduceBEq, Bool.or_self, if_true, if_false, Bool.false_eq_true, Bool.not_true, Bool.not_false, true_and, and_true, decide_true, decide_false, Option.map_some, M.is_non_int, M.is_non_bool, M.is_non_str, M.is_non_tuple, M.is_non_list, M.is_non_dict, M.is_bl_int, M.is_bl_bool, M.is_bl_str, M.is_bl_tuple, M.is_bl_list, M.is_bl_dict, M.is_int_int, M.is_int_bool, M.is_int_str, M.is_int_tuple, M.is_int_list, M.is_int_dict, M.is_str_int, M.is_str_bool, M.is_str_str, M.is_str_tuple, M.is_str_list, M.is_str_dict, M.is_tup_int, M.is_tup_bool, M.is_tup_str, M.is_tup_tuple, M.is_tup_list, M.is_tup_dict, M.is_lst_int, M.is_lst_bool, M.is_lst_str, M.is_lst_tuple, M.is_lst_list, M.is_lst_dict, M.isn_non, M.isn_bl, M.isn_int, M.isn_str, M.isn_tup, M.isn_lst, M.str_beq, M.f_non, M.f_bl, M.f_int, M.f_str, M.fe_str, M.fe_int, M.fe_si, M.fe_is, M.in_tup, M.in_lst, M.nin_tup, M.nin_lst, M.at_0, M.at_1, M.at_2, M.at_3, M.eq_int, M.ne_int, M.eq_bl, M.eq_nil, M.eq_str, M.ne_str, List.all_cons, List.all_nil, List.any_cons, List.any_nil, Bool.and_self, Bool.or_false, Bool.false_or, Bool.or_true, Bool.true_or, Bool.and_true, Bool.true_and, Bool.and_false, Bool.false_and, beq_self_eq_true, bne_self_eq_false, M.ok_comp0, M.ok_compS, M.kCe, M.kCt, M.forD_nil, M.forD_cons, M.kForT_nx, M.kForT_ct, M.kForT_bk, M.kForT_rt, M.cut_1, M.all_1, M.all_2, M.any_1, M.any_2, M.sum_1, M.sum_2, M.all_map, M.any_map, M.sum_map, M.ok_eJs, M.ok_jsN, M.ok_jsC, M.kJs, big]
      refine ⟨by omega, Ok.mono (mid xs c h9 hc0 (.inr h2)) ?_⟩
      rintro o s2 ⟨rfl, zs, o5, o6, o7, rfl, h3, h4⟩
      exact ⟨rfl, zs, y, _, _, _, _, rfl, hy0, hy1, h3, h4⟩
    · simp only [M.ok_ok, M.ok_no, M.oko_some, M.ok_eC, M.ok_eV0, M.ok_eVs, M.ok_e1, M.k1, M.ok_e2, M.k2a, M.k2, M.ok_evs0, M.ok_evs, M.kA, M.ok_eTup, M.ok_eLst, M.ok_eB, M.ok_eCall, M.kTup, M.kLst, M.kB, M.kCall, M.ok_eIf, M.kIfE, M.ok_eAnd, M.kAnd, M.ok_eOr, M.kOr, M.ok_eNot, M.kNotE, M.ok_eChain, M.kCh, M.kCh2, M.ok_tOfE, M.kTo, M.ok_tTru, M.kTru, M.ok_tAnd, M.ok_tOr, M.ok_tNot, M.kTAnd, M.kTOr, M.kTNot, M.ok_tYes, M.ok_pNo, M.ok_pSome, M.kPs, M.ok_eCut, M.kCut, M.kCut1, M.kCut2, M.ok_eDGet, M.kDg, M.kDg2, M.ok_sSeq, M.kSeq_nx, M.kSeq_rt, M.kSeq_bk, M.kSeq_ct, M.ok_sSet, M.kSet, M.ok_sAsg, M.kAsg, M.ok_sPar, M.kPar, M.ok_sDrop, M.kDrop, M.ok_sRet, M.kRet, M.ok_sRetN, M.ok_sNext, M.ok_sBrk, M.ok_sCnt, M.ok_sIf, M.kIf, M.kAug, M.kApp, M.ok_sFor, M.kFor, M.ok_fnM, M.kFn_rt, M.kFn_nx, M.ok_iS, M.kIS_lst, M.kIS_tup, M.ok_iR1, M.kR1, M.ok_iR2, M.kR2, M.ok_eLstRg, M.ok_eTupRg, M.kRg, M.ok_rg1, M.kRg1, M.ok_rg2, M.kRg2, M.kRg2b, M.ok_eM1, M.kM1, M.kM1b, M.ok_eComp, M.kComp, M.kComp1, M.ok_eComp2, M.kCompC, M.kCompB, M.ok_eDisp, M.kDisp, M.ok_sAug1, M.ok_sApp1, M.kApp1, M.kIt_nx, M.kIt_ct, M.kIt_bk, M.kIt_rt, M.v_sub, M.v_addI, M.v_addA, M.v_subA, M.v_lt, M.v_le, M.v_gt, M.v_ge, M.v_int, M.v_lenL, M.v_lenT, M.v_lenZ, M.v_abs, M.v_max, M.v_min, M.v_neg, M.v_ixL, M.v_ixT, M.v_ixZ, M.v_cutL, M.v_cutT, M.v_tupL, M.v_tupT, M.v_lstL, M.v_lstT, M.tr_bl, M.tr_int, M.tr_lst, M.tr_tup, M.tr_non, M.env0_go, M.g_N, M.g_T, M.g_sC, M.g_sN, M.wipe0, M.wipeS, M.ge_0, M.ge_S, List.set_cons_zero, List.set_cons_succ, List.map_cons, List.map_nil, List.cons_append, List.nil_append, List.length_cons, List.length_nil, Nat.reduceAdd, Nat.reduceSub, List.replicate_succ, List.replicate_zero, Option.bind_some, String.reduceBEq, Int.reduceBEq, Bool.or_self, if_true, if_false, Bool.false_eq_true, Bool.not_true, Bool.not_false, true_and, and_true, decide_true, decide_false, Option.map_some, M.is_non_int, M.is_non_bool, M.is_non_str, M.is_non_tuple, M.is_non_list, M.is_non_dict, M.is_bl_int, M.is_bl_bool, M.is_bl_str, M.is_bl_tuple, M.is_bl_list, M.is_bl_dict, M.is_int_int, M.is_int_bool, M.is_int_str, M.is_int_tuple, M.is_int_list, M.is_int_dict, M.is_str_int, M.is_str_bool, M.is_str_str, M.is_str_tuple, M.is_str_list, M.is_str_dict, M.is_tup_int, M.is_tup_bool, M.is_tup_str, M.is_tup_tuple, M.is_tup_list, M.is_tup_dict, M.is_lst_int, M.is_lst_bool, M.is_lst_str, M.is_lst_tuple, M.is_lst_list, M.is_lst_dict, M.isn_non, M.isn_bl, M.isn_int, M.isn_str, M.isn_tup, M.isn_lst, M.str_beq, M.f_non, M.f_bl, M.f_int, M.f_str, M.fe_str, M.fe_int, M.fe_si, M.fe_is, M.in_tup, M.in_lst, M.nin_tup, M.nin_lst, M.at_0, M.at_1, M.at_2, M.at_3, M.eq_int, M.ne_int, M.eq_bl, M.eq_nil, M.eq_str, M.ne_str, List.all_cons, List.all_nil, List.any_cons, List.any_nil, Bool.and_self, Bool.or_false, Bool.false_or, Bool.or_true, Bool.true_or, Bool.and_true, Bool.true_and, Bool.and_false, Bool.false_and, beq_self_eq_true, bne_self_eq_false, M.ok_comp0, M.ok_compS, M.kCe, M.kCt, M.forD_nil, M.forD_cons, M.kForT_nx, M.kForT_ct, M.kForT_bk, M.kForT_rt, M.cut_1, M.all_1, M.all_2, M.any_1, M.any_2, M.sum_1, M.sum_2, M.all_map, M.any_map, M.sum_map, M.ok_eJs, M.ok_jsN, M.ok_jsC, M.kJs, big, v_mod (show (0 : Int) < 997 by decide), v_mod (show (0 : Int) < 65521 by decide), v_mul (show (-(2 ^ 64) : Int) < y by omega) (show y < 2 ^ 64 by omega) (show (-(2 ^ 64) : Int) < 69621 by decide) (show (69621 : Int) < 2 ^ 64 by decide), map_snoc, List.length_map, List.length_append]
      refine ⟨by omega, by omega, by omega, ?_⟩
      have key := mid (xs ++ [c % 997] ++ [(y * 69621 + 5) % 65521 % 997]) 0 h9.snoc.snoc (by omega) (.inl ⟨rfl, by rw [List.length_append, List.length_append]; simp only [List.length_cons, List.length_nil]; omega⟩)
      refine Ok.mono key ?_
      · rintro o s2 ⟨rfl, zs, o5, o6, o7, rfl, h3, h4⟩
        exact ⟨rfl, zs, y, _, _, _, _, rfl, hy0, hy1, h3, h4⟩
  · rintro ρ s' ⟨rfl, xs, x, o4, o5, o6, o7, rfl, h0, h1, h2, h9⟩
    simp only [M.ok_ok, M.ok_no, M.oko_some, M.ok_eC, M.ok_eV0, M.ok_eVs, M.ok_e1, M.k1, M.ok_e2, M.k2a, M.k2, M.ok_evs0, M.ok_evs, M.kA, M.ok_eTup, M.ok_eLst, M.ok_eB, M.ok_eCall, M.kTup, M.kLst, M.kB, M.kCall, M.ok_eIf, M.kIfE, M.ok_eAnd, M.kAnd, M.ok_eOr, M.kOr, M.ok_eNot, M.kNotE, M.ok_eChain, M.kCh, M.kCh2, M.ok_tOfE, M.kTo, M.ok_tTru, M.kTru, M.ok_tAnd, M.ok_tOr, M.ok_tNot, M.kTAnd, M.kTOr, M.kTNot, M.ok_tYes, M.ok_pNo, M.ok_pSome, M.kPs, M.ok_eCut, M.kCut, M.kCut1, M.kCut2, M.ok_eDGet, M.kDg, M.kDg2, M.ok_sSeq, M.kSeq_nx, M.kSeq_rt, M.kSeq_bk, M.kSeq_ct, M.ok_sSet, M.kSet, M.ok_sAsg, M.kAsg, M.ok_sPar, M.kPar, M.ok_sDrop, M.kDrop, M.ok_sRet, M.kRet, M.ok_sRetN, M.ok_sNext, M.ok_sBrk, M.ok_sCnt, M.ok_sIf, M.kIf, M.kAug, M.kApp, M.ok_sFor, M.kFor, M.ok_fnM, M.kFn_rt, M.kFn_nx, M.ok_iS, M.kIS_lst, M.kIS_tup, M.ok_iR1, M.kR1, M.ok_iR2, M.kR2, M.ok_eLstRg, M.ok_eTupRg, M.kRg, M.ok_rg1, M.kRg1, M.ok_rg2, M.kRg2, M.kRg2b, M.ok_eM1, M.kM1, M.kM1b, M.ok_eComp, M.kComp, M.kComp1, M.ok_eComp2, M.kCompC, M.kCompB, M.ok_eDisp, M.kDisp, M.ok_sAug1, M.ok_sApp1, M.kApp1, M.kIt_nx, M.kIt_ct, M.kIt_bk, M.kIt_rt, M.v_sub, M.v_addI, M.v_addA, M.v_subA, M.v_lt, M.v_le, M.v_gt, M.v_ge, M.v_int, M.v_lenL, M.v_lenT, M.v_lenZ, M.v_abs, M.v_max, M.v_min, M.v_neg, M.v_ixL, M.v_ixT, M.v_ixZ, M.v_cutL, M.v_cutT, M.v_tupL, M.v_tupT, M.v_lstL, M.v_lstT, M.tr_bl, M.tr_int, M.tr_lst, M.tr_tup, M.tr_non, M.env0_go, M.g_N, M.g_T, M.g_sC, M.g_sN, M.wipe0, M.wipeS, M.ge_0, M.ge_S, List.set_cons_zero, List.set_cons_succ, List.map_cons, List.map_nil, List.cons_append, List.nil_append, List.length_cons, List.length_nil, Nat.reduceAdd, Nat.reduceSub, List.replicate_succ, List.replicate_zero, Option.bind_some, String.reduceBEq, Int.reduceBEq, Bool.or_self, if_true, if_false, Bool.false_eq_true, Bool.not_true, Bool.not_false, true_and, and_true, decide_true, decide_false, Option.map_some, M.is_non_int, M.is_non_bool, M.is_non_str, M.is_non_tuple, M.is_non_list, M.is_non_dict, M.is_bl_int, M.is_bl_bool, M.is_bl_str, M.is_bl_tuple, M.is_bl_list, M.is_bl_dict, M.is_int_int, M.is_int_bool, M.is_int_str, M.is_int_tuple, M.is_int_list, M.is_int_dict, M.is_str_int, M.is_str_bool, M.is_str_str, M.is_str_tuple, M.is_str_list, M.is_str_dict, M.is_tup_int, M.is_tup_bool, M.is_tup_str, M.is_tup_tuple, M.is_tup_list, M.is_tup_dict, M.is_lst_int, M.is_lst_bool, M.is_lst_str, M.is_lst_tuple, M.is_lst_list, M.is_lst_dict, M.isn_non, M.isn_bl, M.isn_int, M.isn_str, M.isn_tup, M.isn_lst, M.str_beq, M.f_non, M.f_bl, M.f_int, M.f_str, M.fe_str, M.fe_int, M.fe_si, M.fe_is, M.in_tup, M.in_lst, M.nin_tup, M.nin_lst, M.at_0, M.at_1, M.at_2, M.at_3, M.eq_int, M.ne_int, M.eq_bl, M.eq_nil, M.eq_str, M.ne_str, List.all_cons, List.all_nil, List.any_cons, List.any_nil, Bool.and_self, Bool.or_false, Bool.false_or, Bool.or_true, Bool.true_or, Bool.and_true, Bool.true_and, Bool.and_false, Bool.false_and, beq_self_eq_true, bne_self_eq_false, M.ok_comp0, M.ok_compS, M.kCe, M.kCt, M.forD_nil, M.forD_cons, M.kForT_nx, M.kForT_ct, M.kForT_bk, M.kForT_rt, M.cut_1, M.all_1, M.all_2, M.any_1, M.any_2, M.sum_1, M.sum_2, M.all_map, M.any_map, M.sum_map, M.ok_eJs, M.ok_jsN, M.ok_jsC, M.kJs]
    refine ⟨by omega, ?_⟩
    refine for_rng (fun i ρ s2 => s2 = s' ∧ ∃ (xs : List Int) (x : Int) (o4 : Option D), ρ = [some (.scr ns), some (.int m), some (.lst (xs.map .int)), some (.int x), o4, o5, o6, o7] ∧ 0 ≤ x ∧ x < 65537 ∧ xs.length ≤ 62 * 63 + i ∧ In9 xs) ⟨rfl, xs, x, o4, rfl, h0, h1, by omega, h9⟩ ?_ ?_
    · rintro i ρ s2 hi ⟨rfl, xs, x, o4, rfl, h0, h1, h2, h9⟩
      have e0 : (0 : Int) + (i : Nat) = (i : Nat) := by omega
      have hi' : i < m := by omega
      simp only [M.ok_ok, M.ok_no, M.oko_some, M.ok_eC, M.ok_eV0, M.ok_eVs, M.ok_e1, M.k1, M.ok_e2, M.k2a, M.k2, M.ok_evs0, M.ok_evs, M.kA, M.ok_eTup, M.ok_eLst, M.ok_eB, M.ok_eCall, M.kTup, M.kLst, M.kB, M.kCall, M.ok_eIf, M.kIfE, M.ok_eAnd, M.kAnd, M.ok_eOr, M.kOr, M.ok_eNot, M.kNotE, M.ok_eChain, M.kCh, M.kCh2, M.ok_tOfE, M.kTo, M.ok_tTru, M.kTru, M.ok_tAnd, M.ok_tOr, M.ok_tNot, M.kTAnd, M.kTOr, M.kTNot, M.ok_tYes, M.ok_pNo, M.ok_pSome, M.kPs, M.ok_eCut, M.kCut, M.kCut1, M.kCut2, M.ok_eDGet, M.kDg, M.kDg2, M.ok_sSeq, M.kSeq_nx, M.kSeq_rt, M.kSeq_bk, M.kSeq_ct, M.ok_sSet, M.kSet, M.ok_sAsg, M.kAsg, M.ok_sPar, M.kPar, M.ok_sDrop, M.kDrop, M.ok_sRet, M.kRet, M.ok_sRetN, M.ok_sNext, M.ok_sBrk, M.ok_sCnt, M.ok_sIf, M.kIf, M.kAug, M.kApp, M.ok_sFor, M.kFor, M.ok_fnM, M.kFn_rt, M.kFn_nx, M.ok_iS, M.kIS_lst, M.kIS_tup, M.ok_iR1, M.kR1, M.ok_iR2, M.kR2, M.ok_eLstRg, M.ok_eTupRg, M.kRg, M.ok_rg1, M.kRg1, M.ok_rg2, M.kRg2, M.kRg2b, M.ok_eM1, M.kM1, M.kM1b, M.ok_eComp, M.kComp, M.kComp1, M.ok_eComp2, M.kCompC, M.kCompB, M.ok_eDisp, M.kDisp, M.ok_sAug1, M.ok_sApp1, M.kApp1, M.kIt_nx, M.kIt_ct, M.kIt_bk, M.kIt_rt, M.v_sub, M.v_addI, M.v_addA, M.v_subA, M.v_lt, M.v_le, M.v_gt, M.v_ge, M.v_int, M.v_lenL, M.v_lenT, M.v_lenZ, M.v_abs, M.v_max, M.v_min, M.v_neg, M.v_ixL, M.v_ixT, M.v_ixZ, M.v_cutL, M.v_cutT, M.v_tupL, M.v_tupT, M.v_lstL, M.v_lstT, M.tr_bl, M.tr_int, M.tr_lst, M.tr_tup, M.tr_non, M.env0_go, M.g_N, M.g_T, M.g_sC, M.g_sN, M.wipe0, M.wipeS, M.ge_0, M.ge_S, List.set_cons_zero, List.set_cons_succ, List.map_cons, List.map_nil, List.cons_append, List.nil_append, List.length_cons, List.length_nil, Nat.reduceAdd, Nat.reduceSub, List.replicate_succ, List.replicate_zero, Option.bind_some, String.reduceBEq, Int.reduceBEq, Bool.or_self, if_true, if_false, Bool.false_eq_true, Bool.not_true, Bool.not_false, true_and, and_true, decide_true, decide_false, Option.map_some, M.is_non_int, M.is_non_bool, M.is_non_str, M.is_non_tuple, M.is_non_list, M.is_non_dict, M.is_bl_int, M.is_bl_bool, M.is_bl_str, M.is_bl_tuple, M.is_bl_list, M.is_bl_dict, M.is_int_int, M.is_int_bool, M.is_int_str, M.is_int_tuple, M.is_int_list, M.is_int_dict, M.is_str_int, M.is_str_bool, M.is_str_str, M.is_str_tuple, M.is_str_list, M.is_str_dict, M.is_tup_int, M.is_tup_bool, M.is_tup_str, M.is_tup_tuple, M.is_tup_list, M.is_tup_dict, M.is_lst_int, M.is_lst_bool, M.is_lst_str, M.is_lst_tuple, M.is_lst_list, M.is_lst_dict, M.isn_non, M.isn_bl, M.isn_int, M.isn_str, M.isn_tup, M.isn_lst, M.str_beq, M.f_non, M.f_bl, M.f_int, M.f_str, M.fe_str, M.fe_int, M.fe_si, M.fe_is, M.in_tup, M.in_lst, M.nin_tup, M.nin_lst, M.at_0, M.at_1, M.at_2, M.at_3, M.eq_int, M.ne_int, M.eq_bl, M.eq_nil, M.eq_str, M.ne_str, List.all_cons, List.all_nil, List.any_cons, List.any_nil, Bool.and_self, Bool.or_false, Bool.false_or, Bool.or_true, Bool.true_or, Bool.and_true, Bool.true_and, Bool.and_false, Bool.false_and, beq_self_eq_true, bne_self_eq_false, M.ok_comp0, M.ok_compS, M.kCe, M.kCt, M.forD_nil, M.forD_cons, M.kForT_nx, M.kForT_ct, M.kForT_bk, M.kForT_rt, M.cut_1, M.all_1, M.all_2, M.any_1, M.any_2, M.sum_1, M.sum_2, M.all_map, M.any_map, M.sum_map, M.ok_eJs, M.ok_jsN, M.ok_jsC, M.kJs, e0, v_mul (show (-(2 ^ 64) : Int) < x by omega) (show x < 2 ^ 64 by omega) (show (-(2 ^ 64) : Int) < 16807 by decide) (show (16807 : Int) < 2 ^ 64 by decide), v_mod (show (0 : Int) < 65537 by decide), v_mod (show (0 : Int) < 997 by decide), map_snoc, List.length_map]
      refine ⟨by omega, _, _, _, rfl, by omega, by omega, ?_, h9.snoc⟩
      rw [List.length_append]
      simp only [List.length_cons, List.length_nil]
      omega
    · rintro ρ s2 ⟨rfl, xs, x, o4, rfl, h0, h1, h2, h9⟩
      simp only [M.ok_ok, M.ok_no, M.oko_some, M.ok_eC, M.ok_eV0, M.ok_eVs, M.ok_e1, M.k1, M.ok_e2, M.k2a, M.k2, M.ok_evs0, M.ok_evs, M.kA, M.ok_eTup, M.ok_eLst, M.ok_eB, M.ok_eCall, M.kTup, M.kLst, M.kB, M.kCall, M.ok_eIf, M.kIfE, M.ok_eAnd, M.kAnd, M.ok_eOr, M.kOr, M.ok_eNot, M.kNotE, M.ok_eChain, M.kCh, M.kCh2, M.ok_tOfE, M.kTo, M.ok_tTru, M.kTru, M.ok_tAnd, M.ok_tOr, M.ok_tNot, M.kTAnd, M.kTOr, M.kTNot, M.ok_tYes, M.ok_pNo, M.ok_pSome, M.kPs, M.ok_eCut, M.kCut, M.kCut1, M.kCut2, M.ok_eDGet, M.kDg, M.kDg2, M.ok_sSeq, M.kSeq_nx, M.kSeq_rt, M.kSeq_bk, M.kSeq_ct, M.ok_sSet, M.kSet, M.ok_sAsg, M.kAsg, M.ok_sPar, M.kPar, M.ok_sDrop, M.kDrop, M.ok_sRet, M.kRet, M.ok_sRetN, M.ok_sNext, M.ok_sBrk, M.ok_sCnt, M.ok_sIf, M.kIf, M.kAug, M.kApp, M.ok_sFor, M.kFor, M.ok_fnM, M.kFn_rt, M.kFn_nx, M.ok_iS, M.kIS_lst, M.kIS_tup, M.ok_iR1, M.kR1, M.ok_iR2, M.kR2, M.ok_eLstRg, M.ok_eTupRg, M.kRg, M.ok_rg1, M.kRg1, M.ok_rg2, M.kRg2, M.kRg2b, M.ok_eM1, M.kM1, M.kM1b, M.ok_eComp, M.kComp, M.kComp1, M.ok_eComp2, M.kCompC, M.kCompB, M.ok_eDisp, M.kDisp, M.ok_sAug1, M.ok_sApp1, M.kApp1, M.kIt_nx, M.kIt_ct, M.kIt_bk, M.kIt_rt, M.v_sub, M.v_addI, M.v_addA, M.v_subA, M.v_lt, M.v_le, M.v_gt, M.v_ge, M.v_int, M.v_lenL, M.v_lenT, M.v_lenZ, M.v_abs, M.v_max, M.v_min, M.v_neg, M.v_ixL, M.v_ixT, M.v_ixZ, M.v_cutL, M.v_cutT, M.v_tupL, M.v_tupT, M.v_lstL, M.v_lstT, M.tr_bl, M.tr_int, M.tr_lst, M.tr_tup, M.tr_non, M.env0_go, M.g_N, M.g_T, M.g_sC, M.g_sN, M.wipe0, M.wipeS, M.ge_0, M.ge_S, List.set_cons_zero, List.set_cons_succ, List.map_cons, List.map_nil, List.cons_append, List.nil_append, List.length_cons, List.length_nil, Nat.reduceAdd, Nat.reduceSub, List.replicate_succ, List.replicate_zero, Option.bind_some, String.reduceBEq, Int.reduceBEq, Bool.or_self, if_true, if_false, Bool.false_eq_true, Bool.not_true, Bool.not_false, true_and, and_true, decide_true, decide_false, Option.map_some, M.is_non_int, M.is_non_bool, M.is_non_str, M.is_non_tuple, M.is_non_list, M.is_non_dict, M.is_bl_int, M.is_bl_bool, M.is_bl_str, M.is_bl_tuple, M.is_bl_list, M.is_bl_dict, M.is_int_int, M.is_int_bool, M.is_int_str, M.is_int_tuple, M.is_int_list, M.is_int_dict, M.is_str_int, M.is_str_bool, M.is_str_str, M.is_str_tuple, M.is_str_list, M.is_str_dict, M.is_tup_int, M.is_tup_bool, M.is_tup_str, M.is_tup_tuple, M.is_tup_list, M.is_tup_dict, M.is_lst_int, M.is_lst_bool, M.is_lst_str, M.is_lst_tuple, M.is_lst_list, M.is_lst_dict, M.isn_non, M.isn_bl, M.isn_int, M.isn_str, M.isn_tup, M.isn_lst, M.str_beq, M.f_non, M.f_bl, M.f_int, M.f_str, M.fe_str, M.fe_int, M.fe_si, M.fe_is, M.in_tup, M.in_lst, M.nin_tup, M.nin_lst, M.at_0, M.at_1, M.at_2, M.at_3, M.eq_int, M.ne_int, M.eq_bl, M.eq_nil, M.eq_str, M.ne_str, List.all_cons, List.all_nil, List.any_cons, List.any_nil, Bool.and_self, Bool.or_false, Bool.false_or, Bool.or_true, Bool.true_or, Bool.and_true, Bool.true_and, Bool.and_false, Bool.false_and, beq_self_eq_true, bne_self_eq_false, M.ok_comp0, M.ok_compS, M.kCe, M.kCt, M.forD_nil, M.forD_cons, M.kForT_nx, M.kForT_ct, M.kForT_bk, M.kForT_rt, M.cut_1, M.all_1, M.all_2, M.any_1, M.any_2, M.sum_1, M.sum_2, M.all_map, M.any_map, M.sum_map, M.ok_eJs, M.ok_jsN, M.ok_jsC, M.kJs]
      exact ⟨_, h9.cut, by rw [cut_map]⟩
end M
namespace Ob
open PySem PySem.Spec PyProof.Rows L2 M

/-! ### the text by places -/
def top (i : Nat) : Stmt := PySem.Challenge.pw_samehops_k66_prefixes_of_numbers.main.body.getD i (.Pass ⟨0, 0, 0, 0⟩)
abbrev st_covers : Stmt := top 1
theorem sc_covers : FnScope ["prefix", "bits", "n", "value", "length"] ["prefix", "bits", "n"] (defScope st_covers) := ⟨rfl, rfl, rfl, by decide +kernel, rfl, by decide +kernel, by decide +kernel⟩
abbrev st_prefixes_of : Stmt := top 2
theorem sc_prefixes_of : FnScope ["low", "high", "bits"] ["low", "high", "bits"] (defScope st_prefixes_of) := ⟨rfl, rfl, rfl, by decide +kernel, rfl, by decide +kernel, by decide +kernel⟩
abbrev st_prefixes_of_set : Stmt := top 3
theorem sc_prefixes_of_set : FnScope ["numbers", "bits"] ["numbers", "bits"] (defScope st_prefixes_of_set) := ⟨rfl, rfl, rfl, by decide +kernel, rfl, by decide +kernel, by decide +kernel⟩
abbrev st__prefixes : Stmt := top 4
theorem sc__prefixes : FnScope ["numbers", "value", "length", "bits", "middle", "low", "n"] ["numbers", "value", "length", "bits"] (defScope st__prefixes) := ⟨rfl, rfl, rfl, by decide +kernel, rfl, by decide +kernel, by decide +kernel⟩
abbrev st__law_draws : Stmt := top 6
theorem sc__law_draws : FnScope ["script", "many", "draws", "mixed", "k", "cell", "rest", "turn"] ["script", "many"] (defScope st__law_draws) := ⟨rfl, rfl, rfl, by decide +kernel, rfl, by decide +kernel, by decide +kernel⟩
abbrev st__law_next : Stmt := top 7
theorem sc__law_next : FnScope ["w", "many"] ["w", "many"] (defScope st__law_next) := ⟨rfl, rfl, rfl, by decide +kernel, rfl, by decide +kernel, by decide +kernel⟩
abbrev st__law_pick : Stmt := top 8
theorem sc__law_pick : FnScope ["w", "rows"] ["w", "rows"] (defScope st__law_pick) := ⟨rfl, rfl, rfl, by decide +kernel, rfl, by decide +kernel, by decide +kernel⟩
abbrev st__law_greatest : Stmt := top 9
theorem sc__law_greatest : FnScope ["low", "high", "has", "bits", "middle", "first", "length", "k", "n"] ["low", "high", "has", "bits"] (defScope st__law_greatest) := ⟨rfl, rfl, rfl, by decide +kernel, rfl, by decide +kernel, by decide +kernel⟩
abbrev st__law_is_prefixes : Stmt := top 10
theorem sc__law_is_prefixes : FnScope ["told", "one"] ["told"] (defScope st__law_is_prefixes) := ⟨rfl, rfl, rfl, by decide +kernel, rfl, by decide +kernel, by decide +kernel⟩
abbrev st__law_some : Stmt := top 11
theorem sc__law_some : FnScope ["w", "bits", "every", "way", "low", "high", "some", "hole", "k", "n"] ["w", "bits"] (defScope st__law_some) := ⟨rfl, rfl, rfl, by decide +kernel, rfl, by decide +kernel, by decide +kernel⟩
abbrev st_law : Stmt := top 12
theorem sc_law : FnScope ["script", "w", "turn", "bits", "every", "length", "step", "value", "n", "some", "told", "low", "high", "one", "other", "due"] ["script"] (defScope st_law) := ⟨rfl, rfl, rfl, by decide +kernel, rfl, by decide +kernel, by decide +kernel⟩

/-! ### the plain functions -/
abbrev Fns := Nat → List D → Sto → Res D
def m_covers (W : Nat) (g : Fns) : MS :=
  (sSeq (sAsg (eV 0) (gT (gsC (gN 3) (gsC (gN 4) gsN))))
    (sRet (e2 oEq (e2 oShr (eV 3) (e2 oSub (eV 1) (eV 4))) (e2 oShr (eV 2) (e2 oSub (eV 1) (eV 4))))))
def m_prefixes_of (W : Nat) (g : Fns) : MS :=
  (sRet (eCall (g 2) [(eTupRg (rg2 (eV 0) (e2 oAdd (eV 1) (eC (.int 1))))), (eV 2)]))
def m_prefixes_of_set (W : Nat) (g : Fns) : MS :=
  (sRet (e1 oTuple (eCall (g 3) [(e1 oList (eV 0)), (eC (.int 0)), (eC (.int 0)), (eV 1)])))
def m__prefixes (W : Nat) (g : Fns) : MS :=
  (sSeq (sIf (tNotM (tTru (eV 0))) (sRet (eLst [])) sNext)
    (sSeq (sIf (tOfE (e2 oEq (e1 oLen (eV 0)) (e2 oShl (eC (.int 1)) (e2 oSub (eV 3) (eV 2))))) (sRet (eLst [(eTup [(eV 1), (eV 2)])])) sNext)
    (sSeq (sSet 4 (e2 oAdd (eV 1) (e2 oShl (eC (.int 1)) (e2 oSub (e2 oSub (eV 3) (eV 2)) (eC (.int 1))))))
    (sSeq (sSet 5 (eCall (g 3) [(eComp (iS (eV 0)) (gN 6) (tOfE (e2 oLt (eV 6) (eV 4))) (eV 6) [6]), (eV 1), (e2 oAdd (eV 2) (eC (.int 1))), (eV 3)]))
    (sRet (e2 oAdd (eV 5) (eCall (g 3) [(eComp (iS (eV 0)) (gN 6) (tOfE (e2 oGe (eV 6) (eV 4))) (eV 6) [6]), (eV 4), (e2 oAdd (eV 2) (eC (.int 1))), (eV 3)])))))))
def m__law_draws (W : Nat) (g : Fns) : MS :=
  (sSeq (sSet 2 (eLst []))
    (sSeq (sSet 3 (eC (.int 7)))
    (sSeq (sFor (iR1 [(e1 oLen (eV 0))]) (gN 4) (sSeq (sSet 5 (eB oAbs [(eB oInt [(e2 oIx (eV 0) (eV 4))])]))
    (sSeq (sSet 3 (e2 oMod (eB oInt [(e2 oAdd (e2 oAdd (e2 oMul (eV 3) (eC (.int 48271))) (e2 oMod (eV 5) (eC (.int 1000003)))) (eV 4))]) (eC (.int 65537))))
    (sSeq (sSet 6 (eC (.int 0)))
    (sSeq (sIf (tOfE (e2 oGe (eV 5) (e2 oPow (eC (.int 10)) (eC (.int 18))))) (sSet 6 (eV 5)) (sSeq (sApp 2 (e2 oMod (eB oInt [(eV 5)]) (eC (.int 997))))
    (sApp 2 (e2 oMod (e2 oMod (eB oInt [(e2 oAdd (e2 oMul (eV 3) (eC (.int 69621))) (eC (.int 5)))]) (eC (.int 65521))) (eC (.int 997))))))
    (sFor (iR1 [(eC (.int 60))]) (gN 7) (sIf (tOfE (e2 oGt (eV 6) (eC (.int 0)))) (sSeq (sApp 2 (e2 oMod (eB oInt [(eV 6)]) (eC (.int 997))))
    (sSet 6 (e2 oDiv (eV 6) (eC (.int 997))))) sNext)))))))
    (sSeq (sFor (iR1 [(eV 1)]) (gN 4) (sSeq (sSet 3 (e2 oMod (eB oInt [(e2 oAdd (e2 oAdd (e2 oMul (eV 3) (eC (.int 16807))) (eV 4)) (eC (.int 1)))]) (eC (.int 65537))))
    (sApp 2 (e2 oMod (eB oInt [(eV 3)]) (eC (.int 997))))))
    (sRet (eCut (eV 2) pNo (pSome (eV 1))))))))
def m__law_next (W : Nat) (g : Fns) : MS :=
  (sSeq (sDkAug (eV 0) (eC (.str "at")) oAddI (eC (.int 1)))
    (sSeq (sIf (tOfE (e2 oGt (eDGet (eV 0) (eC (.str "at"))) (e1 oLen (eDGet (eV 0) (eC (.str "draws")))))) (sRet (eC (.int 0))) sNext)
    (sRet (e2 oMod (eB oInt [(e2 oIx (eDGet (eV 0) (eC (.str "draws"))) (e2 oSub (eDGet (eV 0) (eC (.str "at"))) (eC (.int 1))))]) (eV 1)))))
def m__law_pick (W : Nat) (g : Fns) : MS :=
  (sRet (e2 oIx (eV 1) (eCall (g 5) [(eV 0), (e1 oLen (eV 1))])))
def m__law_greatest (W : Nat) (g : Fns) : MS :=
  (sSeq (sIf (tOfE (e2 oEq (eV 2) (eLst []))) (sRet (eLst [])) sNext)
    (sSeq (sIf (tOfE (e2 oEq (e1 oLen (eV 2)) (e2 oSub (eV 1) (eV 0)))) (sSeq (sSet 6 (eC (.int 0)))
    (sSeq (sFor (iR1 [(eV 3)]) (gN 7) (sIf (tOfE (e2 oLt (e2 oShl (e2 oSub (eV 1) (eV 0)) (eV 7)) (e2 oShl (eC (.int 1)) (eV 3)))) (sAug 6 oAddI (eC (.int 1))) sNext))
    (sRet (eLst [(eTup [(eV 0), (eV 6)])])))) sNext)
    (sSeq (sSet 4 (e2 oDiv (e2 oAdd (eV 0) (eV 1)) (eC (.int 2))))
    (sSeq (sSet 5 (eComp (iS (eV 2)) (gN 8) (tOfE (e2 oLt (eV 8) (eV 4))) (eV 8) [8]))
    (sRet (e2 oAdd (eCall (g 7) [(eV 0), (eV 4), (eV 5), (eV 3)]) (eCall (g 7) [(eV 4), (eV 1), (eComp (iS (eV 2)) (gN 8) (tOfE (e2 oGe (eV 8) (eV 4))) (eV 8) [8]), (eV 3)])))))))
def m__law_is_prefixes (W : Nat) (g : Fns) : MS :=
  (sSeq (sIf (tOrM (tNotM (tTru (eB oIsInst [(eV 0), (eC (.ty "tuple"))]))) (tOfE (e2 oNe (eComp (iS (eV 0)) (gN 1) (tOrM (tNotM (tTru (eB oIsInst [(eV 1), (eC (.ty "tuple"))]))) (tOfE (e2 oNe (e1 oLen (eV 1)) (eC (.int 2))))) (eV 1) [1]) (eLst [])))) (sRet (eC (.bl false))) sNext)
    (sRet (e2 oEq (eComp (iS (eV 0)) (gN 1) (tOrM (tTru (eB oIsInst [(e2 oIx (eV 1) (eC (.int 0))), (eC (.ty "bool"))])) (tOrM (tTru (eB oIsInst [(e2 oIx (eV 1) (eC (.int 1))), (eC (.ty "bool"))])) (tOrM (tNotM (tTru (eB oIsInst [(e2 oIx (eV 1) (eC (.int 0))), (eC (.ty "int"))]))) (tNotM (tTru (eB oIsInst [(e2 oIx (eV 1) (eC (.int 1))), (eC (.ty "int"))])))))) (eV 1) [1]) (eLst []))))
def m__law_some (W : Nat) (g : Fns) : MS :=
  (sSeq (sSet 2 (e2 oShl (eC (.int 1)) (eV 1)))
    (sSeq (sSet 3 (eCall (g 5) [(eV 0), (eC (.int 4))]))
    (sSeq (sIf (tOfE (e2 oEq (eV 3) (eC (.int 0)))) (sRet (e1 oSSet (eComp (iR1 [(eCall (g 5) [(eV 0), (eC (.int 12))])]) (gN 8) tYesM (eCall (g 5) [(eV 0), (eV 2)]) [8]))) sNext)
    (sSeq (sSet 4 (eCall (g 5) [(eV 0), (eV 2)]))
    (sSeq (sSet 5 (eB oMin2 [(eV 2), (e2 oAdd (e2 oAdd (eV 4) (eC (.int 1))) (eCall (g 5) [(eV 0), (e2 oAdd (eC (.int 1)) (eCall (g 6) [(eV 0), (eLst [(eC (.int 1)), (eC (.int 3)), (eC (.int 9)), (eV 2)])]))]))]))
    (sSeq (sSet 6 (e2 oAdd (eLstRg (rg2 (eV 4) (eV 5))) (eComp (iR1 [(eCall (g 5) [(eV 0), (eC (.int 3))])]) (gN 8) tYesM (eCall (g 5) [(eV 0), (eV 2)]) [8])))
    (sSeq (sSet 7 (eCall (g 6) [(eV 0), (eV 6)]))
    (sRet (e1 oSSet (eComp (iS (eV 6)) (gN 9) (tOrM (tOfE (e2 oNe (eV 9) (eV 7))) (tOfE (e2 oEq (eV 3) (eC (.int 1))))) (eV 9) [9]))))))))))
def m_law (W : Nat) (g : Fns) : MS :=
  (sSeq (sSet 1 (eDisp [.inr "draws", .inr "at"] [(eCall (g 4) [(eV 0), (eC (.int 400))]), (eC (.int 0))]))
    (sSeq (sFor (iR1 [(eC (.int 3))]) (gN 2) (sSeq (sSet 3 (eCall (g 6) [(eV 1), (eLst [(eC (.int 3)), (eC (.int 4)), (eC (.int 5)), (eC (.int 8)), (eC (.int 1)), (eC (.int 2)), (eC (.int 10)), (eC (.int 12))])]))
    (sSeq (sSet 4 (e2 oShl (eC (.int 1)) (eV 3)))
    (sSeq (sSet 5 (eCall (g 5) [(eV 1), (e2 oAdd (eV 3) (eC (.int 1)))]))
    (sSeq (sSet 6 (e2 oShl (eC (.int 1)) (e2 oSub (eV 3) (eV 5))))
    (sSeq (sSet 7 (e2 oMul (eCall (g 5) [(eV 1), (e2 oShl (eC (.int 1)) (eV 5))]) (eV 6)))
    (sSeq (sFor (iS (eTup [(eV 7), (e2 oSub (e2 oAdd (eV 7) (eV 6)) (eC (.int 1))), (eB oMin2 [(e2 oAdd (eV 7) (eV 6)), (e2 oSub (eV 4) (eC (.int 1)))]), (eB oMax2 [(e2 oSub (eV 7) (eC (.int 1))), (eC (.int 0))]), (eCall (g 5) [(eV 1), (eV 4)]), (e2 oAdd (eV 7) (eCall (g 5) [(eV 1), (eV 6)]))])) (gN 8) (sSeq (sPar 10 15 [(eCall (g 0) [(eTup [(eV 7), (eV 5)]), (eV 3), (eV 8)]), (eAnd (e2 oGe (eV 8) (eV 7)) (e2 oLt (eV 8) (e2 oAdd (eV 7) (eV 6))))])
    (sIf (tOrM (tAndM (tTru (eV 15)) (tOfE (e2 oIsNot (eV 10) (eC (.bl true))))) (tAndM (tNotM (tTru (eV 15))) (tOfE (e2 oIsNot (eV 10) (eC (.bl false)))))) (sRet (eC (.bl false))) sNext)))
    (sSeq (sPar 11 12 [(eCall (g 5) [(eV 1), (eV 4)]), (eCall (g 5) [(eV 1), (eV 4)])])
    (sSeq (sIf (tOfE (e2 oGt (eCall (g 5) [(eV 1), (eC (.int 4))]) (eC (.int 0)))) (sPar 11 12 [(eB oMin2 [(eV 11), (eV 12)]), (eB oMax2 [(eV 11), (eV 12)])]) sNext)
    (sSeq (sFor (iS (eTup [(eTup [(eV 11), (eV 12)]), (eTup [(eC (.int 0)), (e2 oSub (eV 4) (eC (.int 1)))]), (eTup [(eV 11), (eV 11)]), (eTup [(eC (.int 0)), (eV 12)])])) (gT (gsC (gN 13) (gsC (gN 14) gsN))) (sSeq (sSet 10 (eCall (g 1) [(eV 13), (eV 14), (eV 3)]))
    (sIf (tOrM (tNotM (tTru (eCall (g 8) [(eV 10)]))) (tOfE (e2 oNe (e1 oList (eV 10)) (eCall (g 7) [(eC (.int 0)), (eV 4), (eLstRg (rg2 (eV 13) (e2 oAdd (eV 14) (eC (.int 1))))), (eV 3)])))) (sRet (eC (.bl false))) sNext)))
    (sSeq (sSet 9 (eCall (g 9) [(eV 1), (eV 3)]))
    (sSeq (sSet 10 (eCall (g 2) [(e1 oTuple (eV 9)), (eV 3)]))
    (sIf (tOrM (tNotM (tTru (eCall (g 8) [(eV 10)]))) (tOfE (e2 oNe (e1 oList (eV 10)) (eCall (g 7) [(eC (.int 0)), (eV 4), (eV 9), (eV 3)])))) (sRet (eC (.bl false))) sNext)))))))))))))
    (sRet (eC (.bl true)))))
def G (W : Nat) : Nat → Fns
  | 0 => fun _ _ _ => .no
  | k + 1 => fun i => match i with
    | 0 => fnM 5 (m_covers W (G W k))
    | 1 => fnM 3 (m_prefixes_of W (G W k))
    | 2 => fnM 2 (m_prefixes_of_set W (G W k))
    | 3 => fnM 7 (m__prefixes W (G W k))
    | 4 => fnM 8 (m__law_draws W (G W k))
    | 5 => fnM 2 (m__law_next W (G W k))
    | 6 => fnM 2 (m__law_pick W (G W k))
    | 7 => fnM 9 (m__law_greatest W (G W k))
    | 8 => fnM 2 (m__law_is_prefixes W (G W k))
    | 9 => fnM 10 (m__law_some W (G W k))
    | 10 => fnM 16 (m_law W (G W k))
    | _ => fun _ _ => .no
end Ob
namespace Ob
open PySem PySem.Spec PyProof.Rows L2 M
/-! ### what the top has written -/
structure Adr where
  covers : Addr
  prefixes_of : Addr
  prefixes_of_set : Addr
  _prefixes : Addr
  _law_draws : Addr
  _law_next : Addr
  _law_pick : Addr
  _law_greatest : Addr
  _law_is_prefixes : Addr
  _law_some : Addr
  law : Addr
structure Fds where
  covers : FuncData
  prefixes_of : FuncData
  prefixes_of_set : FuncData
  _prefixes : FuncData
  _law_draws : FuncData
  _law_next : FuncData
  _law_pick : FuncData
  _law_greatest : FuncData
  _law_is_prefixes : FuncData
  _law_some : FuncData
  law : FuncData
structure Txt (K : PySem.W.Frag) (mg : Str → Option Value) (ad : Adr) (fd : Fds) : Prop where
  tuple : mg "tuple" = none
  range : mg "range" = none
  list : mg "list" = none
  len : mg "len" = none
  abs : mg "abs" = none
  int : mg "int" = none
  isinstance : mg "isinstance" = none
  bool : mg "bool" = none
  sorted : mg "sorted" = none
  set : mg "set" = none
  min : mg "min" = none
  max : mg "max" = none
  mg_covers : mg "covers" = some (.ref ad.covers)
  F_covers : Fun K "covers" "covers" st_covers ad.covers fd.covers
  b_covers : Binds K fd.covers ["prefix", "bits", "n"] []
  mg_prefixes_of : mg "prefixes_of" = some (.ref ad.prefixes_of)
  F_prefixes_of : Fun K "prefixes_of" "prefixes_of" st_prefixes_of ad.prefixes_of fd.prefixes_of
  b_prefixes_of : Binds K fd.prefixes_of ["low", "high", "bits"] []
  mg_prefixes_of_set : mg "prefixes_of_set" = some (.ref ad.prefixes_of_set)
  F_prefixes_of_set : Fun K "prefixes_of_set" "prefixes_of_set" st_prefixes_of_set ad.prefixes_of_set fd.prefixes_of_set
  b_prefixes_of_set : Binds K fd.prefixes_of_set ["numbers", "bits"] []
  mg__prefixes : mg "_prefixes" = some (.ref ad._prefixes)
  F__prefixes : Fun K "_prefixes" "_prefixes" st__prefixes ad._prefixes fd._prefixes
  b__prefixes : Binds K fd._prefixes ["numbers", "value", "length", "bits"] []
  mg__law_draws : mg "_law_draws" = some (.ref ad._law_draws)
  F__law_draws : Fun K "_law_draws" "_law_draws" st__law_draws ad._law_draws fd._law_draws
  b__law_draws : Binds K fd._law_draws ["script", "many"] []
  mg__law_next : mg "_law_next" = some (.ref ad._law_next)
  F__law_next : Fun K "_law_next" "_law_next" st__law_next ad._law_next fd._law_next
  b__law_next : Binds K fd._law_next ["w", "many"] []
  mg__law_pick : mg "_law_pick" = some (.ref ad._law_pick)
  F__law_pick : Fun K "_law_pick" "_law_pick" st__law_pick ad._law_pick fd._law_pick
  b__law_pick : Binds K fd._law_pick ["w", "rows"] []
  mg__law_greatest : mg "_law_greatest" = some (.ref ad._law_greatest)
  F__law_greatest : Fun K "_law_greatest" "_law_greatest" st__law_greatest ad._law_greatest fd._law_greatest
  b__law_greatest : Binds K fd._law_greatest ["low", "high", "has", "bits"] []
  mg__law_is_prefixes : mg "_law_is_prefixes" = some (.ref ad._law_is_prefixes)
  F__law_is_prefixes : Fun K "_law_is_prefixes" "_law_is_prefixes" st__law_is_prefixes ad._law_is_prefixes fd._law_is_prefixes
  b__law_is_prefixes : Binds K fd._law_is_prefixes ["told"] []
  mg__law_some : mg "_law_some" = some (.ref ad._law_some)
  F__law_some : Fun K "_law_some" "_law_some" st__law_some ad._law_some fd._law_some
  b__law_some : Binds K fd._law_some ["w", "bits"] []
  mg_law : mg "law" = some (.ref ad.law)
  F_law : Fun K "law" "law" st_law ad.law fd.law
  b_law : Binds K fd.law ["script"] []
variable {P : Program} {w : World} {K : PySem.W.Frag} {mg : Str → Option Value} {base : Heap} {ad : Adr} {fd : Fds} {W : Nat} {CT : Nat → Option Addr}
structure All (P : Program) (w : World) (K : PySem.W.Frag) (mg : Str → Option Value) (base : Heap) (ad : Adr) (fd : Fds) (W : Nat) (CT : Nat → Option Addr) (k : Nat) : Prop where
  covers : FnOk P w K mg base CX0 k ad.covers fd.covers ["prefix", "bits", "n"] (spD ⟨w, CT⟩ K (fun _ => none) 1 3 (G W k 0))
  prefixes_of : FnOk P w K mg base CX0 k ad.prefixes_of fd.prefixes_of ["low", "high", "bits"] (spD ⟨w, CT⟩ K (fun _ => none) 1 3 (G W k 1))
  prefixes_of_set : FnOk P w K mg base CX0 k ad.prefixes_of_set fd.prefixes_of_set ["numbers", "bits"] (spD ⟨w, CT⟩ K (fun _ => none) 1 2 (G W k 2))
  _prefixes : FnOk P w K mg base CX0 k ad._prefixes fd._prefixes ["numbers", "value", "length", "bits"] (spD ⟨w, CT⟩ K (fun _ => none) 1 4 (G W k 3))
  _law_draws : FnOk P w K mg base CX0 k ad._law_draws fd._law_draws ["script", "many"] (spD ⟨w, CT⟩ K (fun _ => none) 1 2 (G W k 4))
  _law_next : FnOk P w K mg base CX0 k ad._law_next fd._law_next ["w", "many"] (spD ⟨w, CT⟩ K (fun _ => none) 1 2 (G W k 5))
  _law_pick : FnOk P w K mg base CX0 k ad._law_pick fd._law_pick ["w", "rows"] (spD ⟨w, CT⟩ K (fun _ => none) 0 2 (G W k 6))
  _law_greatest : FnOk P w K mg base CX0 k ad._law_greatest fd._law_greatest ["low", "high", "has", "bits"] (spD ⟨w, CT⟩ K (fun _ => none) 1 4 (G W k 7))
  _law_is_prefixes : FnOk P w K mg base CX0 k ad._law_is_prefixes fd._law_is_prefixes ["told"] (spD ⟨w, CT⟩ K (fun _ => none) 1 1 (G W k 8))
  _law_some : FnOk P w K mg base CX0 k ad._law_some fd._law_some ["w", "bits"] (spD ⟨w, CT⟩ K (fun _ => none) 1 2 (G W k 9))
  law : FnOk P w K mg base CX0 k ad.law fd.law ["script"] (spD ⟨w, CT⟩ K (fun _ => none) 1 1 (G W k 10))
theorem ok_covers (T : Txt K mg ad fd) {k : Nat} (A : All P w K mg base ad fd W CT k) : FnOk P w K mg base CX0 (k + 1) ad.covers fd.covers ["prefix", "bits", "n"] (spD ⟨w, CT⟩ K (fun _ => none) 1 3 (G W (k + 1) 0)) := by
  refine fn_ok (nn := 5) (mm := m_covers W (G W k)) T.F_covers sc_covers rfl (fun cdv A0 outer s H E hr => ⟨_, [], [], [],
    (pss_cons (ps_asg (pv 0) (pgTup K (n := 2) rfl (pgs_cons (pg_name (i := 3) sc_covers.nd rfl (by first | exact Or.inl rfl | exact Or.inr rfl)) (pgs_cons (pg_name (i := 4) sc_covers.nd rfl (by first | exact Or.inl rfl | exact Or.inr rfl)) pgs_nil))))
    (pss_one (ps_ret (pe_cmpR (opEq K hr.units) (pe_op op_shr (pv 3) (pe_op op_sub (pv 1) (pv 4))) (pe_op op_shr (pv 2) (pe_op op_sub (pv 1) (pv 4))) (nomark _))))), ?_⟩)
  exact (sim_seq (Γ1 := [0, 0, 0, 0, 0]) (sim_asg (Γ := [0, 0, 0, 0, 0]) (g := .fresh) (sim_var (g := .fresh) rfl) (sim_gT (sim_gsC (sim_gN (Γ := [0, 0, 0, 0, 0]) (i := 3) (by decide)) (sim_gsC (sim_gN (Γ := [0, 0, 0, 0, 0]) (i := 4) (by decide)) sim_gsN))))
    (sim_ret (k := 1) (sim_op2 (k := 1) o_eq (sim_op2 (k := 0) o_shr (sim_var (g := .fresh) rfl) (sim_op2 (k := 0) o_sub (sim_var (g := .fresh) rfl) (sim_var (g := .fresh) rfl))) (sim_op2 (k := 0) o_shr (sim_var (g := .fresh) rfl) (sim_op2 (k := 0) o_sub (sim_var (g := .fresh) rfl) (sim_var (g := .fresh) rfl))))))
theorem ok_prefixes_of (T : Txt K mg ad fd) {k : Nat} (A : All P w K mg base ad fd W CT k) : FnOk P w K mg base CX0 (k + 1) ad.prefixes_of fd.prefixes_of ["low", "high", "bits"] (spD ⟨w, CT⟩ K (fun _ => none) 1 3 (G W (k + 1) 1)) := by
  refine fn_ok (nn := 3) (mm := m_prefixes_of W (G W k)) T.F_prefixes_of sc_prefixes_of rfl (fun cdv A0 outer s H E hr => ⟨_, [], [], [],
    (pss_one (ps_ret (pe_call (E := E) A.prefixes_of_set hr (by rfl) T.mg_prefixes_of_set T.F_prefixes_of_set.kp T.b_prefixes_of_set .nil passE (pa_cons (pe_tupRg rfl (by rfl) T.tuple (prg_2 (by rfl) T.range (pv 0) (pe_op (opAdd K) (pv 1) pe_int))) (pa_cons (pv 2) pa_nil))))), ?_⟩)
  exact (sim_ret (k := 1) (sim_call (n := 2) (sim_cons (g := .fresh) (sim_tupRg (g := .fresh) (sim_rg2 (sim_var (g := .fresh) rfl) (sim_frz (g' := .fresh) (k := 1) (sim_op2 (k := 1) (o_add (by decide) (by decide)) (sim_var (g := .fresh) rfl) (simk_int (g := .fresh) (k := 0)))))) (sim_cons (g := .fresh) (sim_var (g := .fresh) rfl) sim_nil)) rfl))
theorem ok_prefixes_of_set (T : Txt K mg ad fd) {k : Nat} (A : All P w K mg base ad fd W CT k) : FnOk P w K mg base CX0 (k + 1) ad.prefixes_of_set fd.prefixes_of_set ["numbers", "bits"] (spD ⟨w, CT⟩ K (fun _ => none) 1 2 (G W (k + 1) 2)) := by
  refine fn_ok (nn := 2) (mm := m_prefixes_of_set W (G W k)) T.F_prefixes_of_set sc_prefixes_of_set rfl (fun cdv A0 outer s H E hr => ⟨_, [], [], [],
    (pss_one (ps_ret (pe_callTy (callTuple K) (by rfl) T.tuple boot_tuple (pa_cons (pe_call (E := E) A._prefixes hr (by rfl) T.mg__prefixes T.F__prefixes.kp T.b__prefixes .nil passE (pa_cons (pe_callTy (callList K) (by rfl) T.list boot_list (pa_cons (pv 0) pa_nil)) (pa_cons pe_int (pa_cons pe_int (pa_cons (pv 1) pa_nil))))) pa_nil)))), ?_⟩)
  exact (sim_ret (k := 1) (sim_bi1 (k := 1) (o_tuple (by decide)) (sim_call (n := 4) (sim_cons (g := .fresh) (sim_frz (g' := .fresh) (k := 1) (sim_bi1 (k := 1) (o_list (by decide)) (sim_var (g := .fresh) rfl))) (sim_cons (g := .fresh) (simk_int (g := .fresh) (k := 0)) (sim_cons (g := .fresh) (simk_int (g := .fresh) (k := 0)) (sim_cons (g := .fresh) (sim_var (g := .fresh) rfl) sim_nil)))) rfl)))
theorem ok__prefixes (T : Txt K mg ad fd) {k : Nat} (A : All P w K mg base ad fd W CT k) : FnOk P w K mg base CX0 (k + 1) ad._prefixes fd._prefixes ["numbers", "value", "length", "bits"] (spD ⟨w, CT⟩ K (fun _ => none) 1 4 (G W (k + 1) 3)) := by
  refine fn_ok (nn := 7) (mm := m__prefixes W (G W k)) T.F__prefixes sc__prefixes rfl (fun cdv A0 outer s H E hr => ⟨_, [], [], [],
    (pss_cons (ps_if (pt_not (ptTruth K (pv 0) (fun _ => rfl))) (pss_one (ps_ret (pe_lst pa_nil))) pss_nil)
    (pss_cons (ps_if (pt_cmpR (opEq K hr.units) (pe_callB (callLen K) (by rfl) T.len boot_len (pa_cons (pv 0) pa_nil)) (pe_op op_shl pe_int (pe_op op_sub (pv 3) (pv 2))) (nomark _)) (pss_one (ps_ret (pe_lst (pa_cons (pe_tup (pa_cons (pv 1) (pa_cons (pv 2) pa_nil))) pa_nil)))) pss_nil)
    (pss_cons (ps_set (i := 4) sc__prefixes.nd rfl (by first | exact Or.inl rfl | exact Or.inr rfl) (pe_op (opAdd K) (pv 1) (pe_op op_shl pe_int (pe_op op_sub (pe_op op_sub (pv 3) (pv 2)) pe_int))))
    (pss_cons (ps_set (i := 5) sc__prefixes.nd rfl (by first | exact Or.inl rfl | exact Or.inr rfl) (pe_call (E := E) A._prefixes hr (by rfl) T.mg__prefixes T.F__prefixes.kp T.b__prefixes .nil passE (pa_cons (pe_lc (own := [("n", 6)]) rfl sc__prefixes.nd (piSeq K (pv 0)) (blkOk_by (own := [("n", 6)]) (N := ["numbers", "value", "length", "bits", "middle", "low", "n"]) (sc := defScope st__prefixes) (by decide +kernel)) (fun _ _ _ _ _ => (pg_name (i := 6) sc__prefixes.nd rfl (by first | exact Or.inl rfl | exact Or.inr rfl))) (fun _ _ _ _ _ => (pts_one (pt_cmpR op_lt (pv 6) (pv 4) (nomark _)))) (fun _ _ _ _ _ => (pv 6))) (pa_cons (pv 1) (pa_cons (pe_op (opAdd K) (pv 2) pe_int) (pa_cons (pv 3) pa_nil))))))
    (pss_one (ps_ret (pe_op (opAdd K) (pv 5) (pe_call (E := E) A._prefixes hr (by rfl) T.mg__prefixes T.F__prefixes.kp T.b__prefixes .nil passE (pa_cons (pe_lc (own := [("n", 6)]) rfl sc__prefixes.nd (piSeq K (pv 0)) (blkOk_by (own := [("n", 6)]) (N := ["numbers", "value", "length", "bits", "middle", "low", "n"]) (sc := defScope st__prefixes) (by decide +kernel)) (fun _ _ _ _ _ => (pg_name (i := 6) sc__prefixes.nd rfl (by first | exact Or.inl rfl | exact Or.inr rfl))) (fun _ _ _ _ _ => (pts_one (pt_cmpR op_ge (pv 6) (pv 4) (nomark _)))) (fun _ _ _ _ _ => (pv 6))) (pa_cons (pv 4) (pa_cons (pe_op (opAdd K) (pv 2) pe_int) (pa_cons (pv 3) pa_nil)))))))))))), ?_⟩)
  exact (sim_seq (Γ1 := [0, 0, 0, 0, 0, 0, 0]) (sim_if (sim_not (sim_tru (by decide) (sim_var (g := .fresh) rfl))) (sim_ret (k := 1) (sim_lst sim_nil (lenOk rfl))) sim_next)
    (sim_seq (Γ1 := [0, 0, 0, 0, 0, 0, 0]) (sim_if (sim_test (k := 0) (g := .fresh) (sim_op2 (k := 0) o_eq (sim_bi1 (k := 0) (o_len (by decide)) (sim_var (g := .fresh) rfl)) (sim_op2 (k := 0) o_shl (simk_int (g := .fresh) (k := 0)) (sim_op2 (k := 0) o_sub (sim_var (g := .fresh) rfl) (sim_var (g := .fresh) rfl))))) (sim_ret (k := 1) (sim_lst (sim_cons (g := .fresh) (simk_tup (g := .fresh) (k := 0) (sim_cons (g := .fresh) (sim_var (g := .fresh) rfl) (sim_cons (g := .fresh) (sim_var (g := .fresh) rfl) sim_nil)) (lenOk rfl)) sim_nil) (lenOk rfl))) sim_next)
    (sim_seq (Γ1 := [0, 0, 0, 0, 1, 0, 0]) (sim_set (Γ := [0, 0, 0, 0, 0, 0, 0]) (i := 4) (k := 1) (sim_op2 (k := 1) (o_add (by decide) (by decide)) (sim_var (g := .fresh) rfl) (sim_op2 (k := 0) o_shl (simk_int (g := .fresh) (k := 0)) (sim_op2 (k := 0) o_sub (sim_op2 (k := 0) o_sub (sim_var (g := .fresh) rfl) (sim_var (g := .fresh) rfl)) (simk_int (g := .fresh) (k := 0))))) (by decide))
    (sim_seq (Γ1 := [0, 0, 0, 0, 1, 1, 0]) (sim_set (Γ := [0, 0, 0, 0, 1, 0, 0]) (i := 5) (k := 1) (sim_call (n := 4) (sim_cons (g := .fresh) (sim_frz (g' := .fresh) (k := 1) (sim_lc (Γ := [0, 0, 0, 0, 1, 0, 0]) (g0 := .fresh) (sim_iS (g := .fresh) (sim_var (g := .fresh) rfl)) (sim_gN (Γ := [0, 0, 0, 0, 1, 0, 0]) (i := 6) (by decide)) (sim_test (k := 0) (g := .fresh) (sim_op2 (k := 0) o_lt (sim_var (g := .fresh) rfl) (sim_varB (k := 1) rfl))) (sim_var (g := .fresh) rfl) (by decide))) (sim_cons (g := .fresh) (sim_var (g := .fresh) rfl) (sim_cons (g := .fresh) (sim_frz (g' := .fresh) (k := 1) (sim_op2 (k := 1) (o_add (by decide) (by decide)) (sim_var (g := .fresh) rfl) (simk_int (g := .fresh) (k := 0)))) (sim_cons (g := .fresh) (sim_var (g := .fresh) rfl) sim_nil)))) rfl) (by decide))
    (sim_in (Γ2 := [0, 0, 0, 0, 0, 1, 0]) (sim_ret (k := 1) (sim_op2 (k := 1) (o_add (by decide) (by decide)) (sim_varB (k := 1) rfl) (sim_call (n := 4) (sim_cons (g := .fresh) (sim_frz (g' := .fresh) (k := 1) (sim_lc (Γ := [0, 0, 0, 0, 0, 1, 0]) (g0 := .fresh) (sim_iS (g := .fresh) (sim_var (g := .fresh) rfl)) (sim_gN (Γ := [0, 0, 0, 0, 0, 1, 0]) (i := 6) (by decide)) (sim_test (k := 0) (g := .fresh) (sim_op2 (k := 0) o_ge (sim_var (g := .fresh) rfl) (sim_var (g := .fresh) rfl))) (sim_var (g := .fresh) rfl) (by decide))) (sim_cons (g := .fresh) (sim_var (g := .fresh) rfl) (sim_cons (g := .fresh) (sim_frz (g' := .fresh) (k := 1) (sim_op2 (k := 1) (o_add (by decide) (by decide)) (sim_var (g := .fresh) rfl) (simk_int (g := .fresh) (k := 0)))) (sim_cons (g := .fresh) (sim_var (g := .fresh) rfl) sim_nil)))) rfl))) (Lower.of (by decide)))))))
theorem ok__law_draws (T : Txt K mg ad fd) {k : Nat} (A : All P w K mg base ad fd W CT k) : FnOk P w K mg base CX0 (k + 1) ad._law_draws fd._law_draws ["script", "many"] (spD ⟨w, CT⟩ K (fun _ => none) 1 2 (G W (k + 1) 4)) := by
  refine fn_ok (nn := 8) (mm := m__law_draws W (G W k)) T.F__law_draws sc__law_draws rfl (fun cdv A0 outer s H E hr => ⟨_, [], [], [],
    (pss_cons (ps_set (i := 2) sc__law_draws.nd rfl (by first | exact Or.inl rfl | exact Or.inr rfl) (pe_lst pa_nil))
    (pss_cons (ps_set (i := 3) sc__law_draws.nd rfl (by first | exact Or.inl rfl | exact Or.inr rfl) pe_int)
    (pss_cons (ps_for PassesOwn.never rfl (pi_range1 (by rfl) T.range (pa_cons (pe_callB (callLen K) (by rfl) T.len boot_len (pa_cons (pv 0) pa_nil)) pa_nil)) (pg_name (i := 4) sc__law_draws.nd rfl (by first | exact Or.inl rfl | exact Or.inr rfl)) (pss_cons (ps_set (i := 5) sc__law_draws.nd rfl (by first | exact Or.inl rfl | exact Or.inr rfl) (pe_callB call_abs (by rfl) T.abs boot_abs (pa_cons (pe_callTy call_int1 (by rfl) T.int boot_int (pa_cons (pe_ix (ixSeq K) (pv 0) (pv 4) (fun _ _ => rfl)) pa_nil)) pa_nil)))
    (pss_cons (ps_set (i := 3) sc__law_draws.nd rfl (by first | exact Or.inl rfl | exact Or.inr rfl) (pe_op op_mod (pe_callTy call_int1 (by rfl) T.int boot_int (pa_cons (pe_op (opAdd K) (pe_op (opAdd K) (pe_op op_mulW (pv 3) pe_int) (pe_op op_mod (pv 5) pe_int)) (pv 4)) pa_nil)) pe_int))
    (pss_cons (ps_set (i := 6) sc__law_draws.nd rfl (by first | exact Or.inl rfl | exact Or.inr rfl) pe_int)
    (pss_cons (ps_if (pt_cmpR op_ge (pv 5) (pe_op op_pow pe_int pe_int) (nomark _)) (pss_one (ps_set (i := 6) sc__law_draws.nd rfl (by first | exact Or.inl rfl | exact Or.inr rfl) (pv 5))) (pss_cons (ps_expr (peBm K PySem.F.plainAttrs_list PySem.F.slot_list_append PySem.F.type_list_append mt_append (pv 2) (pa_cons (pe_op op_mod (pe_callTy call_int1 (by rfl) T.int boot_int (pa_cons (pv 5) pa_nil)) pe_int) pa_nil)))
    (pss_one (ps_expr (peBm K PySem.F.plainAttrs_list PySem.F.slot_list_append PySem.F.type_list_append mt_append (pv 2) (pa_cons (pe_op op_mod (pe_op op_mod (pe_callTy call_int1 (by rfl) T.int boot_int (pa_cons (pe_op (opAdd K) (pe_op op_mulW (pv 3) pe_int) pe_int) pa_nil)) pe_int) pe_int) pa_nil))))))
    (pss_one (ps_for PassesOwn.never rfl (pi_range1 (by rfl) T.range (pa_cons pe_int pa_nil)) (pg_name (i := 7) sc__law_draws.nd rfl (by first | exact Or.inl rfl | exact Or.inr rfl)) (pss_one (ps_if (pt_cmpR op_gt (pv 6) pe_int (nomark _)) (pss_cons (ps_expr (peBm K PySem.F.plainAttrs_list PySem.F.slot_list_append PySem.F.type_list_append mt_append (pv 2) (pa_cons (pe_op op_mod (pe_callTy call_int1 (by rfl) T.int boot_int (pa_cons (pv 6) pa_nil)) pe_int) pa_nil)))
    (pss_one (ps_set (i := 6) sc__law_draws.nd rfl (by first | exact Or.inl rfl | exact Or.inr rfl) (pe_op op_fdivW (pv 6) pe_int)))) pss_nil)))))))))
    (pss_cons (ps_for PassesOwn.never rfl (pi_range1 (by rfl) T.range (pa_cons (pv 1) pa_nil)) (pg_name (i := 4) sc__law_draws.nd rfl (by first | exact Or.inl rfl | exact Or.inr rfl)) (pss_cons (ps_set (i := 3) sc__law_draws.nd rfl (by first | exact Or.inl rfl | exact Or.inr rfl) (pe_op op_mod (pe_callTy call_int1 (by rfl) T.int boot_int (pa_cons (pe_op (opAdd K) (pe_op (opAdd K) (pe_op op_mulW (pv 3) pe_int) (pv 4)) pe_int) pa_nil)) pe_int))
    (pss_one (ps_expr (peBm K PySem.F.plainAttrs_list PySem.F.slot_list_append PySem.F.type_list_append mt_append (pv 2) (pa_cons (pe_op op_mod (pe_callTy call_int1 (by rfl) T.int boot_int (pa_cons (pv 3) pa_nil)) pe_int) pa_nil))))))
    (pss_one (ps_ret (pe_slice (slG K) (pv 2) po_none (po_some (pv 1))))))))), ?_⟩)
  exact (sim_seq (Γ1 := [0, 0, 1, 0, 0, 0, 0, 0]) (sim_set (Γ := [0, 0, 0, 0, 0, 0, 0, 0]) (i := 2) (k := 1) (sim_lst sim_nil (lenOk rfl)) (by decide))
    (sim_seq (Γ1 := [0, 0, 1, 0, 0, 0, 0, 0]) (sim_set (Γ := [0, 0, 1, 0, 0, 0, 0, 0]) (i := 3) (k := 0) (simk_int (g := .fresh) (k := 0)) (by decide))
    (sim_seq (Γ1 := [0, 0, 1, 0, 0, 0, 0, 0]) (sim_for (Γ := [0, 0, 1, 0, 0, 0, 0, 0]) (sim_iR1 (sim_cons (g := .fresh) (sim_bi1 (k := 0) (o_len (by decide)) (sim_var (g := .fresh) rfl)) sim_nil)) (sim_gN (Γ := [0, 0, 1, 0, 0, 0, 0, 0]) (i := 4) (by decide)) (sim_seq (Γ1 := [0, 0, 1, 0, 0, 0, 0, 0]) (sim_set (Γ := [0, 0, 1, 0, 0, 0, 0, 0]) (i := 5) (k := 0) (sim_bi (k := 0) o_abs (sim_cons (g := .fresh) (sim_bi (k := 0) o_int (sim_cons (g := .fresh) (sim_op2 (o_ix (by decide)) (sim_var (g := .fresh) rfl) (sim_var (g := .fresh) rfl)) sim_nil)) sim_nil)) (by decide))
    (sim_seq (Γ1 := [0, 0, 1, 0, 0, 0, 0, 0]) (sim_set (Γ := [0, 0, 1, 0, 0, 0, 0, 0]) (i := 3) (k := 0) (sim_op2 (k := 0) o_mod (sim_bi (k := 0) o_int (sim_cons (g := .fresh) (sim_frz (g' := .fresh) (k := 1) (sim_op2 (k := 1) (o_add (by decide) (by decide)) (sim_op2 (k := 1) (o_add (by decide) (by decide)) (sim_op2 (k := 0) o_mul (sim_var (g := .fresh) rfl) (simk_int (g := .fresh) (k := 0))) (sim_op2 (k := 0) o_mod (sim_var (g := .fresh) rfl) (simk_int (g := .fresh) (k := 0)))) (sim_var (g := .fresh) rfl))) sim_nil)) (simk_int (g := .fresh) (k := 0))) (by decide))
    (sim_seq (Γ1 := [0, 0, 1, 0, 0, 0, 0, 0]) (sim_set (Γ := [0, 0, 1, 0, 0, 0, 0, 0]) (i := 6) (k := 0) (simk_int (g := .fresh) (k := 0)) (by decide))
    (sim_seq (Γ1 := [0, 0, 1, 0, 0, 0, 0, 0]) (sim_if (sim_test (k := 0) (g := .fresh) (sim_op2 (k := 0) o_ge (sim_var (g := .fresh) rfl) (sim_op2 (k := 0) o_pow (simk_int (g := .fresh) (k := 0)) (simk_int (g := .fresh) (k := 0))))) (sim_set (Γ := [0, 0, 1, 0, 0, 0, 0, 0]) (i := 6) (k := 0) (sim_var (g := .fresh) rfl) (by decide)) (sim_seq (Γ1 := [0, 0, 1, 0, 0, 0, 0, 0]) (sim_app (Γ := [0, 0, 1, 0, 0, 0, 0, 0]) (g := .fresh) (i := 2) (sim_op2 (k := 0) o_mod (sim_bi (k := 0) o_int (sim_cons (g := .fresh) (sim_var (g := .fresh) rfl) sim_nil)) (simk_int (g := .fresh) (k := 0))) rfl (by decide))
    (sim_app (Γ := [0, 0, 1, 0, 0, 0, 0, 0]) (g := .fresh) (i := 2) (sim_op2 (k := 0) o_mod (sim_op2 (k := 0) o_mod (sim_bi (k := 0) o_int (sim_cons (g := .fresh) (sim_frz (g' := .fresh) (k := 1) (sim_op2 (k := 1) (o_add (by decide) (by decide)) (sim_op2 (k := 0) o_mul (sim_var (g := .fresh) rfl) (simk_int (g := .fresh) (k := 0))) (simk_int (g := .fresh) (k := 0)))) sim_nil)) (simk_int (g := .fresh) (k := 0))) (simk_int (g := .fresh) (k := 0))) rfl (by decide))))
    (sim_for (Γ := [0, 0, 1, 0, 0, 0, 0, 0]) (sim_iR1 (sim_cons (g := .fresh) (simk_int (g := .fresh) (k := 0)) sim_nil)) (sim_gN (Γ := [0, 0, 1, 0, 0, 0, 0, 0]) (i := 7) (by decide)) (sim_if (sim_test (k := 0) (g := .fresh) (sim_op2 (k := 0) o_gt (sim_var (g := .fresh) rfl) (simk_int (g := .fresh) (k := 0)))) (sim_seq (Γ1 := [0, 0, 1, 0, 0, 0, 0, 0]) (sim_app (Γ := [0, 0, 1, 0, 0, 0, 0, 0]) (g := .fresh) (i := 2) (sim_op2 (k := 0) o_mod (sim_bi (k := 0) o_int (sim_cons (g := .fresh) (sim_var (g := .fresh) rfl) sim_nil)) (simk_int (g := .fresh) (k := 0))) rfl (by decide))
    (sim_set (Γ := [0, 0, 1, 0, 0, 0, 0, 0]) (i := 6) (k := 0) (sim_op2 (k := 0) o_div (sim_var (g := .fresh) rfl) (simk_int (g := .fresh) (k := 0))) (by decide))) sim_next)))))))
    (sim_seq (Γ1 := [0, 0, 1, 0, 0, 0, 0, 0]) (sim_for (Γ := [0, 0, 1, 0, 0, 0, 0, 0]) (sim_iR1 (sim_cons (g := .fresh) (sim_var (g := .fresh) rfl) sim_nil)) (sim_gN (Γ := [0, 0, 1, 0, 0, 0, 0, 0]) (i := 4) (by decide)) (sim_seq (Γ1 := [0, 0, 1, 0, 0, 0, 0, 0]) (sim_set (Γ := [0, 0, 1, 0, 0, 0, 0, 0]) (i := 3) (k := 0) (sim_op2 (k := 0) o_mod (sim_bi (k := 0) o_int (sim_cons (g := .fresh) (sim_frz (g' := .fresh) (k := 1) (sim_op2 (k := 1) (o_add (by decide) (by decide)) (sim_op2 (k := 1) (o_add (by decide) (by decide)) (sim_op2 (k := 0) o_mul (sim_var (g := .fresh) rfl) (simk_int (g := .fresh) (k := 0))) (sim_var (g := .fresh) rfl)) (simk_int (g := .fresh) (k := 0)))) sim_nil)) (simk_int (g := .fresh) (k := 0))) (by decide))
    (sim_app (Γ := [0, 0, 1, 0, 0, 0, 0, 0]) (g := .fresh) (i := 2) (sim_op2 (k := 0) o_mod (sim_bi (k := 0) o_int (sim_cons (g := .fresh) (sim_var (g := .fresh) rfl) sim_nil)) (simk_int (g := .fresh) (k := 0))) rfl (by decide))))
    (sim_ret (k := 1) (sim_cut (by decide) (sim_varB (k := 1) rfl) sim_pno (sim_psome (g := .fresh) (sim_var (g := .fresh) rfl))))))))
theorem ok__law_next (T : Txt K mg ad fd) {k : Nat} (A : All P w K mg base ad fd W CT k) : FnOk P w K mg base CX0 (k + 1) ad._law_next fd._law_next ["w", "many"] (spD ⟨w, CT⟩ K (fun _ => none) 1 2 (G W (k + 1) 5)) := by
  refine fn_ok (nn := 2) (mm := m__law_next W (G W k)) T.F__law_next sc__law_next rfl (fun cdv A0 outer s H E hr => ⟨_, [], [], [],
    (pss_cons (ps_daug (hu_of hr) (pv 0) pe_str pe_int in_add (fun _ _ _ => rfl))
    (pss_cons (ps_if (pt_cmpR op_gt (pe_dget (hu_of hr) (pv 0) pe_str (fun _ _ => rfl)) (pe_callB (callLen K) (by rfl) T.len boot_len (pa_cons (pe_dget (hu_of hr) (pv 0) pe_str (fun _ _ => rfl)) pa_nil)) (nomark _)) (pss_one (ps_ret pe_int)) pss_nil)
    (pss_one (ps_ret (pe_op op_mod (pe_callTy call_int1 (by rfl) T.int boot_int (pa_cons (pe_ix (ixSeq K) (pe_dget (hu_of hr) (pv 0) pe_str (fun _ _ => rfl)) (pe_op op_sub (pe_dget (hu_of hr) (pv 0) pe_str (fun _ _ => rfl)) pe_int) (fun _ _ => rfl)) pa_nil)) (pv 1)))))), ?_⟩)
  exact (sim_seq (Γ1 := [0, 0]) (sim_daug (g1 := .fresh) (g2 := .fresh) (g3 := .fresh) (k2 := 0) o_addI rAdd_const (sim_var (g := .fresh) rfl) (simk_str (g := .fresh) (k := 0)) (simk_int (g := .fresh) (k := 0)))
    (sim_seq (Γ1 := [0, 0]) (sim_if (sim_test (k := 0) (g := .fresh) (sim_op2 (k := 0) o_gt (sim_dget (g := .fresh) (g1 := .fresh) (g2 := .fresh) (sim_var (g := .fresh) rfl) (simk_str (g := .fresh) (k := 0))) (sim_bi1 (k := 0) (o_len (by decide)) (sim_dget (g := .fresh) (g1 := .fresh) (g2 := .fresh) (sim_var (g := .fresh) rfl) (simk_str (g := .fresh) (k := 0)))))) (sim_ret (k := 1) (simk_int (g := .fresh) (k := 1))) sim_next)
    (sim_ret (k := 1) (sim_op2 (k := 1) o_mod (sim_bi (k := 0) o_int (sim_cons (g := .fresh) (sim_op2 (o_ix (by decide)) (sim_dget (g := .fresh) (g1 := .fresh) (g2 := .fresh) (sim_var (g := .fresh) rfl) (simk_str (g := .fresh) (k := 0))) (sim_op2 (k := 0) o_sub (sim_dget (g := .fresh) (g1 := .fresh) (g2 := .fresh) (sim_var (g := .fresh) rfl) (simk_str (g := .fresh) (k := 0))) (simk_int (g := .fresh) (k := 0)))) sim_nil)) (sim_var (g := .fresh) rfl)))))
theorem ok__law_pick (T : Txt K mg ad fd) {k : Nat} (A : All P w K mg base ad fd W CT k) : FnOk P w K mg base CX0 (k + 1) ad._law_pick fd._law_pick ["w", "rows"] (spD ⟨w, CT⟩ K (fun _ => none) 0 2 (G W (k + 1) 6)) := by
  refine fn_ok (nn := 2) (mm := m__law_pick W (G W k)) T.F__law_pick sc__law_pick rfl (fun cdv A0 outer s H E hr => ⟨_, [], [], [],
    (pss_one (ps_ret (pe_ix (ixSeq K) (pv 1) (pe_call (E := E) A._law_next hr (by rfl) T.mg__law_next T.F__law_next.kp T.b__law_next .nil passE (pa_cons (pv 0) (pa_cons (pe_callB (callLen K) (by rfl) T.len boot_len (pa_cons (pv 1) pa_nil)) pa_nil))) (fun _ _ => rfl)))), ?_⟩)
  exact (sim_ret (k := 0) (sim_op2 (o_ix (by decide)) (sim_var (g := .fresh) rfl) (sim_call (n := 2) (sim_cons (g := .fresh) (sim_var (g := .fresh) rfl) (sim_cons (g := .fresh) (sim_bi1 (k := 0) (o_len (by decide)) (sim_var (g := .fresh) rfl)) sim_nil)) rfl)))
theorem ok__law_greatest (T : Txt K mg ad fd) {k : Nat} (A : All P w K mg base ad fd W CT k) : FnOk P w K mg base CX0 (k + 1) ad._law_greatest fd._law_greatest ["low", "high", "has", "bits"] (spD ⟨w, CT⟩ K (fun _ => none) 1 4 (G W (k + 1) 7)) := by
  refine fn_ok (nn := 9) (mm := m__law_greatest W (G W k)) T.F__law_greatest sc__law_greatest rfl (fun cdv A0 outer s H E hr => ⟨_, [], [], [],
    (pss_cons (ps_if (pt_cmpR (opEq K hr.units) (pv 2) (pe_lst pa_nil) (nomark _)) (pss_one (ps_ret (pe_lst pa_nil))) pss_nil)
    (pss_cons (ps_if (pt_cmpR (opEq K hr.units) (pe_callB (callLen K) (by rfl) T.len boot_len (pa_cons (pv 2) pa_nil)) (pe_op op_sub (pv 1) (pv 0)) (nomark _)) (pss_cons (ps_set (i := 6) sc__law_greatest.nd rfl (by first | exact Or.inl rfl | exact Or.inr rfl) pe_int)
    (pss_cons (ps_for PassesOwn.never rfl (pi_range1 (by rfl) T.range (pa_cons (pv 3) pa_nil)) (pg_name (i := 7) sc__law_greatest.nd rfl (by first | exact Or.inl rfl | exact Or.inr rfl)) (pss_one (ps_if (pt_cmpR op_lt (pe_op op_shl (pe_op op_sub (pv 1) (pv 0)) (pv 7)) (pe_op op_shl pe_int (pv 3)) (nomark _)) (pss_one (ps_aug (i := 6) sc__law_greatest.nd rfl (by first | exact Or.inl rfl | exact Or.inr rfl) pe_int ip_add)) pss_nil)))
    (pss_one (ps_ret (pe_lst (pa_cons (pe_tup (pa_cons (pv 0) (pa_cons (pv 6) pa_nil))) pa_nil)))))) pss_nil)
    (pss_cons (ps_set (i := 4) sc__law_greatest.nd rfl (by first | exact Or.inl rfl | exact Or.inr rfl) (pe_op op_fdivW (pe_op (opAdd K) (pv 0) (pv 1)) pe_int))
    (pss_cons (ps_setLc (i := 5) (own := [("n", 8)]) rfl sc__law_greatest.nd rfl rfl (sw_true rfl rfl rfl (by decide +kernel)) (piSeq K (pv 2)) (blkOk_by (own := [("n", 8)]) (N := ["low", "high", "has", "bits", "middle", "first", "length", "k", "n"]) (sc := defScope st__law_greatest) (by decide +kernel)) (fun _ _ _ _ _ => (pg_name (i := 8) sc__law_greatest.nd rfl (by first | exact Or.inl rfl | exact Or.inr rfl))) (fun _ _ _ _ _ => (pts_one (pt_cmpR op_lt (pv 8) (pv 4) (nomark _)))) (fun _ _ _ _ _ => (pv 8)))
    (pss_one (ps_ret (pe_op (opAdd K) (pe_call (E := E) A._law_greatest hr (by rfl) T.mg__law_greatest T.F__law_greatest.kp T.b__law_greatest .nil passE (pa_cons (pv 0) (pa_cons (pv 4) (pa_cons (pv 5) (pa_cons (pv 3) pa_nil))))) (pe_call (E := E) A._law_greatest hr (by rfl) T.mg__law_greatest T.F__law_greatest.kp T.b__law_greatest .nil passE (pa_cons (pv 4) (pa_cons (pv 1) (pa_cons (pe_lc (own := [("n", 8)]) rfl sc__law_greatest.nd (piSeq K (pv 2)) (blkOk_by (own := [("n", 8)]) (N := ["low", "high", "has", "bits", "middle", "first", "length", "k", "n"]) (sc := defScope st__law_greatest) (by decide +kernel)) (fun _ _ _ _ _ => (pg_name (i := 8) sc__law_greatest.nd rfl (by first | exact Or.inl rfl | exact Or.inr rfl))) (fun _ _ _ _ _ => (pts_one (pt_cmpR op_ge (pv 8) (pv 4) (nomark _)))) (fun _ _ _ _ _ => (pv 8))) (pa_cons (pv 3) pa_nil)))))))))))), ?_⟩)
  exact (sim_seq (Γ1 := [0, 0, 0, 0, 0, 0, 0, 0, 0]) (sim_if (sim_test (k := 0) (g := .fresh) (sim_op2 (k := 0) o_eq (sim_var (g := .fresh) rfl) (sim_lst sim_nil (lenOk rfl)))) (sim_ret (k := 1) (sim_lst sim_nil (lenOk rfl))) sim_next)
    (sim_seq (Γ1 := [0, 0, 0, 0, 0, 0, 0, 0, 0]) (sim_if (sim_test (k := 0) (g := .fresh) (sim_op2 (k := 0) o_eq (sim_bi1 (k := 0) (o_len (by decide)) (sim_var (g := .fresh) rfl)) (sim_op2 (k := 0) o_sub (sim_var (g := .fresh) rfl) (sim_var (g := .fresh) rfl)))) (sim_seq (Γ1 := [0, 0, 0, 0, 0, 0, 0, 0, 0]) (sim_set (Γ := [0, 0, 0, 0, 0, 0, 0, 0, 0]) (i := 6) (k := 0) (simk_int (g := .fresh) (k := 0)) (by decide))
    (sim_seq (Γ1 := [0, 0, 0, 0, 0, 0, 0, 0, 0]) (sim_for (Γ := [0, 0, 0, 0, 0, 0, 0, 0, 0]) (sim_iR1 (sim_cons (g := .fresh) (sim_var (g := .fresh) rfl) sim_nil)) (sim_gN (Γ := [0, 0, 0, 0, 0, 0, 0, 0, 0]) (i := 7) (by decide)) (sim_if (sim_test (k := 0) (g := .fresh) (sim_op2 (k := 0) o_lt (sim_op2 (k := 0) o_shl (sim_op2 (k := 0) o_sub (sim_var (g := .fresh) rfl) (sim_var (g := .fresh) rfl)) (sim_var (g := .fresh) rfl)) (sim_op2 (k := 0) o_shl (simk_int (g := .fresh) (k := 0)) (sim_var (g := .fresh) rfl)))) (sim_aug (Γ := [0, 0, 0, 0, 0, 0, 0, 0, 0]) (i := 6) o_ipAdd (simk_int (g := .fresh) (k := 0)) rfl (by decide)) sim_next))
    (sim_ret (k := 1) (sim_lst (sim_cons (g := .fresh) (simk_tup (g := .fresh) (k := 0) (sim_cons (g := .fresh) (sim_var (g := .fresh) rfl) (sim_cons (g := .fresh) (sim_var (g := .fresh) rfl) sim_nil)) (lenOk rfl)) sim_nil) (lenOk rfl))))) sim_next)
    (sim_seq (Γ1 := [0, 0, 0, 0, 0, 0, 0, 0, 0]) (sim_set (Γ := [0, 0, 0, 0, 0, 0, 0, 0, 0]) (i := 4) (k := 0) (sim_op2 (k := 0) o_div (sim_op2 (k := 1) (o_add (by decide) (by decide)) (sim_var (g := .fresh) rfl) (sim_var (g := .fresh) rfl)) (simk_int (g := .fresh) (k := 0))) (by decide))
    (sim_seq (Γ1 := [0, 0, 0, 0, 0, 1, 0, 0, 0]) (sim_set (Γ := [0, 0, 0, 0, 0, 0, 0, 0, 0]) (i := 5) (k := 1) (sim_lc (Γ := [0, 0, 0, 0, 0, 0, 0, 0, 0]) (g0 := .fresh) (sim_iS (g := .fresh) (sim_var (g := .fresh) rfl)) (sim_gN (Γ := [0, 0, 0, 0, 0, 0, 0, 0, 0]) (i := 8) (by decide)) (sim_test (k := 0) (g := .fresh) (sim_op2 (k := 0) o_lt (sim_var (g := .fresh) rfl) (sim_var (g := .fresh) rfl))) (sim_var (g := .fresh) rfl) (by decide)) (by decide))
    (sim_in (Γ2 := [0, 0, 0, 0, 0, 0, 0, 0, 0]) (sim_ret (k := 1) (sim_op2 (k := 1) (o_add (by decide) (by decide)) (sim_call (n := 4) (sim_cons (g := .fresh) (sim_var (g := .fresh) rfl) (sim_cons (g := .fresh) (sim_var (g := .fresh) rfl) (sim_cons (g := .fresh) (sim_var (g := .fresh) rfl) (sim_cons (g := .fresh) (sim_var (g := .fresh) rfl) sim_nil)))) rfl) (sim_call (n := 4) (sim_cons (g := .fresh) (sim_var (g := .fresh) rfl) (sim_cons (g := .fresh) (sim_var (g := .fresh) rfl) (sim_cons (g := .fresh) (sim_frz (g' := .fresh) (k := 1) (sim_lc (Γ := [0, 0, 0, 0, 0, 0, 0, 0, 0]) (g0 := .fresh) (sim_iS (g := .fresh) (sim_var (g := .fresh) rfl)) (sim_gN (Γ := [0, 0, 0, 0, 0, 0, 0, 0, 0]) (i := 8) (by decide)) (sim_test (k := 0) (g := .fresh) (sim_op2 (k := 0) o_ge (sim_var (g := .fresh) rfl) (sim_var (g := .fresh) rfl))) (sim_var (g := .fresh) rfl) (by decide))) (sim_cons (g := .fresh) (sim_var (g := .fresh) rfl) sim_nil)))) rfl))) (Lower.of (by decide)))))))
theorem ok__law_is_prefixes (T : Txt K mg ad fd) {k : Nat} (A : All P w K mg base ad fd W CT k) : FnOk P w K mg base CX0 (k + 1) ad._law_is_prefixes fd._law_is_prefixes ["told"] (spD ⟨w, CT⟩ K (fun _ => none) 1 1 (G W (k + 1) 8)) := by
  refine fn_ok (nn := 2) (mm := m__law_is_prefixes W (G W k)) T.F__law_is_prefixes sc__law_is_prefixes rfl (fun cdv A0 outer s H E hr => ⟨_, [], [], [],
    (pss_cons (ps_if (PW.pt (pw_or (pt_not (ptTruth K (pe_callB (callIsi K) (by rfl) T.isinstance boot_isinstance (pa_cons (pv 0) (pa_cons (pe_bltn (v := .ty "tuple") (by rfl) T.tuple boot_tuple rfl) pa_nil))) (fun _ => rfl))) (pw_or1 (pt_cmpR (opNe K hr.units) (pe_lc (own := [("one", 1)]) rfl sc__law_is_prefixes.nd (piSeq K (pv 0)) (blkOk_by (own := [("one", 1)]) (N := ["told", "one"]) (sc := defScope st__law_is_prefixes) (by decide +kernel)) (fun _ _ _ _ _ => (pg_name (i := 1) sc__law_is_prefixes.nd rfl (by first | exact Or.inl rfl | exact Or.inr rfl))) (fun _ _ _ _ _ => (pts_one (PW.pt (pw_or (pt_not (ptTruth K (pe_callB (callIsi K) (by rfl) T.isinstance boot_isinstance (pa_cons (pv 1) (pa_cons (pe_bltn (v := .ty "tuple") (by rfl) T.tuple boot_tuple rfl) pa_nil))) (fun _ => rfl))) (pw_or1 (pt_cmpR (opNe K hr.units) (pe_callB (callLen K) (by rfl) T.len boot_len (pa_cons (pv 1) pa_nil)) pe_int (nomark _))))))) (fun _ _ _ _ _ => (pv 1))) (pe_lst pa_nil) (nomark _))))) (pss_one (ps_ret pe_bl)) pss_nil)
    (pss_one (ps_ret (pe_cmpR (opEq K hr.units) (pe_lc (own := [("one", 1)]) rfl sc__law_is_prefixes.nd (piSeq K (pv 0)) (blkOk_by (own := [("one", 1)]) (N := ["told", "one"]) (sc := defScope st__law_is_prefixes) (by decide +kernel)) (fun _ _ _ _ _ => (pg_name (i := 1) sc__law_is_prefixes.nd rfl (by first | exact Or.inl rfl | exact Or.inr rfl))) (fun _ _ _ _ _ => (pts_one (PW.pt (pw_or (ptTruth K (pe_callB (callIsi K) (by rfl) T.isinstance boot_isinstance (pa_cons (pe_ix (ixSeq K) (pv 1) pe_int (fun _ _ => rfl)) (pa_cons (pe_bltn (v := .ty "bool") (by rfl) T.bool boot_bool rfl) pa_nil))) (fun _ => rfl)) (pw_or (ptTruth K (pe_callB (callIsi K) (by rfl) T.isinstance boot_isinstance (pa_cons (pe_ix (ixSeq K) (pv 1) pe_int (fun _ _ => rfl)) (pa_cons (pe_bltn (v := .ty "bool") (by rfl) T.bool boot_bool rfl) pa_nil))) (fun _ => rfl)) (pw_or (pt_not (ptTruth K (pe_callB (callIsi K) (by rfl) T.isinstance boot_isinstance (pa_cons (pe_ix (ixSeq K) (pv 1) pe_int (fun _ _ => rfl)) (pa_cons (pe_bltn (v := .ty "int") (by rfl) T.int boot_int rfl) pa_nil))) (fun _ => rfl))) (pw_or1 (pt_not (ptTruth K (pe_callB (callIsi K) (by rfl) T.isinstance boot_isinstance (pa_cons (pe_ix (ixSeq K) (pv 1) pe_int (fun _ _ => rfl)) (pa_cons (pe_bltn (v := .ty "int") (by rfl) T.int boot_int rfl) pa_nil))) (fun _ => rfl)))))))))) (fun _ _ _ _ _ => (pv 1))) (pe_lst pa_nil) (nomark _))))), ?_⟩)
  exact (sim_seq (Γ1 := [0, 0]) (sim_if (sim_or (sim_not (sim_tru (k := 0) (g := .fresh) (by decide) (sim_bi (k := 0) o_isInst (sim_cons (g := .fresh) (sim_var (g := .fresh) rfl) (sim_cons (g := .fresh) (simk_ty (g := .fresh) (k := 0)) sim_nil))))) (sim_test (k := 0) (g := .fresh) (sim_op2 (k := 0) o_ne (sim_lc (Γ := [0, 0]) (g0 := .fresh) (sim_iS (g := .fresh) (sim_var (g := .fresh) rfl)) (sim_gN (Γ := [0, 0]) (i := 1) (by decide)) (sim_or (sim_not (sim_tru (k := 0) (g := .fresh) (by decide) (sim_bi (k := 0) o_isInst (sim_cons (g := .fresh) (sim_var (g := .fresh) rfl) (sim_cons (g := .fresh) (simk_ty (g := .fresh) (k := 0)) sim_nil))))) (sim_test (k := 0) (g := .fresh) (sim_op2 (k := 0) o_ne (sim_bi1 (k := 0) (o_len (by decide)) (sim_var (g := .fresh) rfl)) (simk_int (g := .fresh) (k := 0))))) (sim_var (g := .fresh) rfl) (by decide)) (sim_lst sim_nil (lenOk rfl))))) (sim_ret (k := 1) (simk_bl (g := .fresh) (k := 1))) sim_next)
    (sim_ret (k := 1) (sim_op2 (k := 1) o_eq (sim_lc (Γ := [0, 0]) (g0 := .fresh) (sim_iS (g := .fresh) (sim_var (g := .fresh) rfl)) (sim_gN (Γ := [0, 0]) (i := 1) (by decide)) (sim_or (sim_tru (k := 0) (g := .fresh) (by decide) (sim_bi (k := 0) o_isInst (sim_cons (g := .fresh) (sim_op2 (o_ix (by decide)) (sim_var (g := .fresh) rfl) (simk_int (g := .fresh) (k := 0))) (sim_cons (g := .fresh) (simk_ty (g := .fresh) (k := 0)) sim_nil)))) (sim_or (sim_tru (k := 0) (g := .fresh) (by decide) (sim_bi (k := 0) o_isInst (sim_cons (g := .fresh) (sim_op2 (o_ix (by decide)) (sim_var (g := .fresh) rfl) (simk_int (g := .fresh) (k := 0))) (sim_cons (g := .fresh) (simk_ty (g := .fresh) (k := 0)) sim_nil)))) (sim_or (sim_not (sim_tru (k := 0) (g := .fresh) (by decide) (sim_bi (k := 0) o_isInst (sim_cons (g := .fresh) (sim_op2 (o_ix (by decide)) (sim_var (g := .fresh) rfl) (simk_int (g := .fresh) (k := 0))) (sim_cons (g := .fresh) (simk_ty (g := .fresh) (k := 0)) sim_nil))))) (sim_not (sim_tru (k := 0) (g := .fresh) (by decide) (sim_bi (k := 0) o_isInst (sim_cons (g := .fresh) (sim_op2 (o_ix (by decide)) (sim_var (g := .fresh) rfl) (simk_int (g := .fresh) (k := 0))) (sim_cons (g := .fresh) (simk_ty (g := .fresh) (k := 0)) sim_nil)))))))) (sim_var (g := .fresh) rfl) (by decide)) (sim_lst sim_nil (lenOk rfl)))))
theorem ok__law_some (T : Txt K mg ad fd) {k : Nat} (A : All P w K mg base ad fd W CT k) : FnOk P w K mg base CX0 (k + 1) ad._law_some fd._law_some ["w", "bits"] (spD ⟨w, CT⟩ K (fun _ => none) 1 2 (G W (k + 1) 9)) := by
  refine fn_ok (nn := 10) (mm := m__law_some W (G W k)) T.F__law_some sc__law_some rfl (fun cdv A0 outer s H E hr => ⟨_, [], [], [],
    (pss_cons (ps_set (i := 2) sc__law_some.nd rfl (by first | exact Or.inl rfl | exact Or.inr rfl) (pe_op op_shl pe_int (pv 1)))
    (pss_cons (ps_set (i := 3) sc__law_some.nd rfl (by first | exact Or.inl rfl | exact Or.inr rfl) (pe_call (E := E) A._law_next hr (by rfl) T.mg__law_next T.F__law_next.kp T.b__law_next .nil passE (pa_cons (pv 0) (pa_cons pe_int pa_nil))))
    (pss_cons (ps_if (pt_cmpR (opEq K hr.units) (pv 3) pe_int (nomark _)) (pss_one (ps_ret (pe_callB (callSortSI w (u65 hr) rfl) (by rfl) T.sorted boot_sorted (pa_cons (pe_callTy (callSetI K w rfl) (by rfl) T.set boot_set (pa_cons (pe_lc (own := [("k", 8)]) rfl sc__law_some.nd (pi_range1 (by rfl) T.range (pa_cons (pe_call (E := E) A._law_next hr (by rfl) T.mg__law_next T.F__law_next.kp T.b__law_next .nil passE (pa_cons (pv 0) (pa_cons pe_int pa_nil))) pa_nil)) (blkOk_by (own := [("k", 8)]) (N := ["w", "bits", "every", "way", "low", "high", "some", "hole", "k", "n"]) (sc := defScope st__law_some) (by decide +kernel)) (fun _ _ _ _ _ => (pg_name (i := 8) sc__law_some.nd rfl (by first | exact Or.inl rfl | exact Or.inr rfl))) (fun _ _ _ _ _ => pts_nil) (fun _ _ _ _ _ => (pe_call (E := E0) A._law_next hr (by rfl) T.mg__law_next T.F__law_next.kp T.b__law_next .nil passE (pa_cons (pv 0) (pa_cons (pv 2) pa_nil))))) pa_nil)) pa_nil)))) pss_nil)
    (pss_cons (ps_set (i := 4) sc__law_some.nd rfl (by first | exact Or.inl rfl | exact Or.inr rfl) (pe_call (E := E) A._law_next hr (by rfl) T.mg__law_next T.F__law_next.kp T.b__law_next .nil passE (pa_cons (pv 0) (pa_cons (pv 2) pa_nil))))
    (pss_cons (ps_set (i := 5) sc__law_some.nd rfl (by first | exact Or.inl rfl | exact Or.inr rfl) (pe_callB (call_min2 rfl) (by rfl) T.min boot_min (pa_cons (pv 2) (pa_cons (pe_op (opAdd K) (pe_op (opAdd K) (pv 4) pe_int) (pe_call (E := E) A._law_next hr (by rfl) T.mg__law_next T.F__law_next.kp T.b__law_next .nil passE (pa_cons (pv 0) (pa_cons (pe_op (opAdd K) pe_int (pe_call (E := E) A._law_pick hr (by rfl) T.mg__law_pick T.F__law_pick.kp T.b__law_pick .nil passE (pa_cons (pv 0) (pa_cons (pe_lst (pa_cons pe_int (pa_cons pe_int (pa_cons pe_int (pa_cons (pv 2) pa_nil))))) pa_nil)))) pa_nil)))) pa_nil))))
    (pss_cons (ps_set (i := 6) sc__law_some.nd rfl (by first | exact Or.inl rfl | exact Or.inr rfl) (pe_op (opAdd K) (pe_listRg rfl (by rfl) T.list (prg_2 (by rfl) T.range (pv 4) (pv 5))) (pe_lc (own := [("k", 8)]) rfl sc__law_some.nd (pi_range1 (by rfl) T.range (pa_cons (pe_call (E := E) A._law_next hr (by rfl) T.mg__law_next T.F__law_next.kp T.b__law_next .nil passE (pa_cons (pv 0) (pa_cons pe_int pa_nil))) pa_nil)) (blkOk_by (own := [("k", 8)]) (N := ["w", "bits", "every", "way", "low", "high", "some", "hole", "k", "n"]) (sc := defScope st__law_some) (by decide +kernel)) (fun _ _ _ _ _ => (pg_name (i := 8) sc__law_some.nd rfl (by first | exact Or.inl rfl | exact Or.inr rfl))) (fun _ _ _ _ _ => pts_nil) (fun _ _ _ _ _ => (pe_call (E := E0) A._law_next hr (by rfl) T.mg__law_next T.F__law_next.kp T.b__law_next .nil passE (pa_cons (pv 0) (pa_cons (pv 2) pa_nil)))))))
    (pss_cons (ps_set (i := 7) sc__law_some.nd rfl (by first | exact Or.inl rfl | exact Or.inr rfl) (pe_call (E := E) A._law_pick hr (by rfl) T.mg__law_pick T.F__law_pick.kp T.b__law_pick .nil passE (pa_cons (pv 0) (pa_cons (pv 6) pa_nil))))
    (pss_one (ps_ret (pe_callB (callSortSI w (u65 hr) rfl) (by rfl) T.sorted boot_sorted (pa_cons (pe_callTy (callSetI K w rfl) (by rfl) T.set boot_set (pa_cons (pe_lc (own := [("n", 9)]) rfl sc__law_some.nd (piSeq K (pv 6)) (blkOk_by (own := [("n", 9)]) (N := ["w", "bits", "every", "way", "low", "high", "some", "hole", "k", "n"]) (sc := defScope st__law_some) (by decide +kernel)) (fun _ _ _ _ _ => (pg_name (i := 9) sc__law_some.nd rfl (by first | exact Or.inl rfl | exact Or.inr rfl))) (fun _ _ _ _ _ => (pts_one (PW.pt (pw_or (pt_cmpR (opNe K hr.units) (pv 9) (pv 7) (nomark _)) (pw_or1 (pt_cmpR (opEq K hr.units) (pv 3) pe_int (nomark _))))))) (fun _ _ _ _ _ => (pv 9))) pa_nil)) pa_nil))))))))))), ?_⟩)
  exact (sim_seq (Γ1 := [0, 0, 0, 0, 0, 0, 0, 0, 0, 0]) (sim_set (Γ := [0, 0, 0, 0, 0, 0, 0, 0, 0, 0]) (i := 2) (k := 0) (sim_op2 (k := 0) o_shl (simk_int (g := .fresh) (k := 0)) (sim_var (g := .fresh) rfl)) (by decide))
    (sim_seq (Γ1 := [0, 0, 0, 1, 0, 0, 0, 0, 0, 0]) (sim_set (Γ := [0, 0, 0, 0, 0, 0, 0, 0, 0, 0]) (i := 3) (k := 1) (sim_call (n := 2) (sim_cons (g := .fresh) (sim_var (g := .fresh) rfl) (sim_cons (g := .fresh) (simk_int (g := .fresh) (k := 0)) sim_nil)) rfl) (by decide))
    (sim_seq (Γ1 := [0, 0, 0, 1, 0, 0, 0, 0, 0, 0]) (sim_if (sim_test (k := 0) (g := .fresh) (sim_op2 (k := 0) o_eq (sim_varB (k := 1) rfl) (simk_int (g := .fresh) (k := 0)))) (sim_ret (k := 1) (sim_bi1s (k := 1) (o_sset (by decide)) (sim_lc (Γ := [0, 0, 0, 1, 0, 0, 0, 0, 0, 0]) (g0 := .fresh) (sim_iR1 (sim_cons (g := .fresh) (sim_frz (g' := .fresh) (k := 1) (sim_call (n := 2) (sim_cons (g := .fresh) (sim_var (g := .fresh) rfl) (sim_cons (g := .fresh) (simk_int (g := .fresh) (k := 0)) sim_nil)) rfl)) sim_nil)) (sim_gN (Γ := [0, 0, 0, 1, 0, 0, 0, 0, 0, 0]) (i := 8) (by decide)) sim_yes (sim_frz (g' := .fresh) (k := 1) (sim_call (n := 2) (sim_cons (g := .fresh) (sim_var (g := .fresh) rfl) (sim_cons (g := .fresh) (sim_var (g := .fresh) rfl) sim_nil)) rfl)) (by decide)))) sim_next)
    (sim_seq (Γ1 := [0, 0, 0, 1, 1, 0, 0, 0, 0, 0]) (sim_set (Γ := [0, 0, 0, 1, 0, 0, 0, 0, 0, 0]) (i := 4) (k := 1) (sim_call (n := 2) (sim_cons (g := .fresh) (sim_var (g := .fresh) rfl) (sim_cons (g := .fresh) (sim_var (g := .fresh) rfl) sim_nil)) rfl) (by decide))
    (sim_seq (Γ1 := [0, 0, 0, 1, 1, 0, 0, 0, 0, 0]) (sim_set (Γ := [0, 0, 0, 1, 1, 0, 0, 0, 0, 0]) (i := 5) (k := 0) (sim_bi (k := 0) o_min2 (sim_cons (g := .fresh) (sim_var (g := .fresh) rfl) (sim_cons (g := .fresh) (sim_frz (g' := .fresh) (k := 1) (sim_op2 (k := 1) (o_add (by decide) (by decide)) (sim_op2 (k := 1) (o_add (by decide) (by decide)) (sim_varB (k := 1) rfl) (simk_int (g := .fresh) (k := 0))) (sim_call (n := 2) (sim_cons (g := .fresh) (sim_var (g := .fresh) rfl) (sim_cons (g := .fresh) (sim_frz (g' := .fresh) (k := 1) (sim_op2 (k := 1) (o_add (by decide) (by decide)) (simk_int (g := .fresh) (k := 0)) (sim_call (n := 2) (sim_cons (g := .fresh) (sim_var (g := .fresh) rfl) (sim_cons (g := .fresh) (sim_frz (g' := .fresh) (k := 1) (sim_lst (sim_cons (g := .fresh) (simk_int (g := .fresh) (k := 0)) (sim_cons (g := .fresh) (simk_int (g := .fresh) (k := 0)) (sim_cons (g := .fresh) (simk_int (g := .fresh) (k := 0)) (sim_cons (g := .fresh) (sim_var (g := .fresh) rfl) sim_nil)))) (lenOk rfl))) sim_nil)) rfl))) sim_nil)) rfl))) sim_nil))) (by decide))
    (sim_seq (Γ1 := [0, 0, 0, 1, 0, 0, 1, 0, 0, 0]) (sim_in (Γ2 := [0, 0, 0, 1, 0, 0, 0, 0, 0, 0]) (sim_set (Γ := [0, 0, 0, 1, 0, 0, 0, 0, 0, 0]) (i := 6) (k := 1) (sim_op2 (k := 1) (o_add (by decide) (by decide)) (sim_lstRg (sim_rg2 (sim_var (g := .fresh) rfl) (sim_var (g := .fresh) rfl))) (sim_lc (Γ := [0, 0, 0, 1, 0, 0, 0, 0, 0, 0]) (g0 := .fresh) (sim_iR1 (sim_cons (g := .fresh) (sim_frz (g' := .fresh) (k := 1) (sim_call (n := 2) (sim_cons (g := .fresh) (sim_var (g := .fresh) rfl) (sim_cons (g := .fresh) (simk_int (g := .fresh) (k := 0)) sim_nil)) rfl)) sim_nil)) (sim_gN (Γ := [0, 0, 0, 1, 0, 0, 0, 0, 0, 0]) (i := 8) (by decide)) sim_yes (sim_frz (g' := .fresh) (k := 1) (sim_call (n := 2) (sim_cons (g := .fresh) (sim_var (g := .fresh) rfl) (sim_cons (g := .fresh) (sim_var (g := .fresh) rfl) sim_nil)) rfl)) (by decide))) (by decide)) (Lower.of (by decide)))
    (sim_seq (Γ1 := [0, 0, 0, 1, 0, 0, 0, 0, 0, 0]) (sim_in (Γ2 := [0, 0, 0, 1, 0, 0, 0, 0, 0, 0]) (sim_set (Γ := [0, 0, 0, 1, 0, 0, 0, 0, 0, 0]) (i := 7) (k := 0) (sim_call (n := 2) (sim_cons (g := .fresh) (sim_var (g := .fresh) rfl) (sim_cons (g := .fresh) (sim_var (g := .fresh) rfl) sim_nil)) rfl) (by decide)) (Lower.of (by decide)))
    (sim_ret (k := 1) (sim_bi1s (k := 1) (o_sset (by decide)) (sim_lc (Γ := [0, 0, 0, 1, 0, 0, 0, 0, 0, 0]) (g0 := .fresh) (sim_iS (g := .fresh) (sim_var (g := .fresh) rfl)) (sim_gN (Γ := [0, 0, 0, 1, 0, 0, 0, 0, 0, 0]) (i := 9) (by decide)) (sim_or (sim_test (k := 0) (g := .fresh) (sim_op2 (k := 0) o_ne (sim_var (g := .fresh) rfl) (sim_var (g := .fresh) rfl))) (sim_test (k := 0) (g := .fresh) (sim_op2 (k := 0) o_eq (sim_varB (k := 1) rfl) (simk_int (g := .fresh) (k := 0))))) (sim_var (g := .fresh) rfl) (by decide)))))))))))
theorem ok_law (T : Txt K mg ad fd) {k : Nat} (A : All P w K mg base ad fd W CT k) : FnOk P w K mg base CX0 (k + 1) ad.law fd.law ["script"] (spD ⟨w, CT⟩ K (fun _ => none) 1 1 (G W (k + 1) 10)) := by
  refine fn_ok (nn := 16) (mm := m_law W (G W k)) T.F_law sc_law rfl (fun cdv A0 outer s H E hr => ⟨_, [], [], [],
    (pss_cons (ps_set (i := 1) sc_law.nd rfl (by first | exact Or.inl rfl | exact Or.inr rfl) (pe_disp (pps_cons pe_str (pe_call (E := E) A._law_draws hr (by rfl) T.mg__law_draws T.F__law_draws.kp T.b__law_draws .nil passE (pa_cons (pv 0) (pa_cons pe_int pa_nil))) (pps_cons pe_str pe_int pps_nil)) (by rfl) (by rfl) (fun z => by cases z) (by decide)))
    (pss_cons (ps_for PassesOwn.never rfl (pi_range1 (by rfl) T.range (pa_cons pe_int pa_nil)) (pg_name (i := 2) sc_law.nd rfl (by first | exact Or.inl rfl | exact Or.inr rfl)) (pss_cons (ps_set (i := 3) sc_law.nd rfl (by first | exact Or.inl rfl | exact Or.inr rfl) (pe_call (E := E) A._law_pick hr (by rfl) T.mg__law_pick T.F__law_pick.kp T.b__law_pick .nil passE (pa_cons (pv 1) (pa_cons (pe_lst (pa_cons pe_int (pa_cons pe_int (pa_cons pe_int (pa_cons pe_int (pa_cons pe_int (pa_cons pe_int (pa_cons pe_int (pa_cons pe_int pa_nil))))))))) pa_nil))))
    (pss_cons (ps_set (i := 4) sc_law.nd rfl (by first | exact Or.inl rfl | exact Or.inr rfl) (pe_op op_shl pe_int (pv 3)))
    (pss_cons (ps_set (i := 5) sc_law.nd rfl (by first | exact Or.inl rfl | exact Or.inr rfl) (pe_call (E := E) A._law_next hr (by rfl) T.mg__law_next T.F__law_next.kp T.b__law_next .nil passE (pa_cons (pv 1) (pa_cons (pe_op (opAdd K) (pv 3) pe_int) pa_nil))))
    (pss_cons (ps_set (i := 6) sc_law.nd rfl (by first | exact Or.inl rfl | exact Or.inr rfl) (pe_op op_shl pe_int (pe_op op_sub (pv 3) (pv 5))))
    (pss_cons (ps_set (i := 7) sc_law.nd rfl (by first | exact Or.inl rfl | exact Or.inr rfl) (pe_op op_mulW (pe_call (E := E) A._law_next hr (by rfl) T.mg__law_next T.F__law_next.kp T.b__law_next .nil passE (pa_cons (pv 1) (pa_cons (pe_op op_shl pe_int (pv 5)) pa_nil))) (pv 6)))
    (pss_cons (ps_for PassesOwn.never rfl (piSeq K (pe_tup (pa_cons (pv 7) (pa_cons (pe_op op_sub (pe_op (opAdd K) (pv 7) (pv 6)) pe_int) (pa_cons (pe_callB (call_min2 rfl) (by rfl) T.min boot_min (pa_cons (pe_op (opAdd K) (pv 7) (pv 6)) (pa_cons (pe_op op_sub (pv 4) pe_int) pa_nil))) (pa_cons (pe_callB (call_max2 rfl) (by rfl) T.max boot_max (pa_cons (pe_op op_sub (pv 7) pe_int) (pa_cons pe_int pa_nil))) (pa_cons (pe_call (E := E) A._law_next hr (by rfl) T.mg__law_next T.F__law_next.kp T.b__law_next .nil passE (pa_cons (pv 1) (pa_cons (pv 4) pa_nil))) (pa_cons (pe_op (opAdd K) (pv 7) (pe_call (E := E) A._law_next hr (by rfl) T.mg__law_next T.F__law_next.kp T.b__law_next .nil passE (pa_cons (pv 1) (pa_cons (pv 6) pa_nil)))) pa_nil)))))))) (pg_name (i := 8) sc_law.nd rfl (by first | exact Or.inl rfl | exact Or.inr rfl)) (pss_cons (ps_par (i := 10) (j := 15) rfl sc_law.nd rfl rfl (by decide) rfl rfl (pa_cons (pe_call (E := E) A.covers hr (by rfl) T.mg_covers T.F_covers.kp T.b_covers .nil passE (pa_cons (pe_tup (pa_cons (pv 7) (pa_cons (pv 5) pa_nil))) (pa_cons (pv 3) (pa_cons (pv 8) pa_nil)))) (pa_cons (pe_and (pe_cmpR op_ge (pv 8) (pv 7) (nomark _)) (pe_one (pe_cmpR op_lt (pv 8) (pe_op (opAdd K) (pv 7) (pv 6)) (nomark _)))) pa_nil)) (by rfl))
    (pss_one (ps_if (PW.pt (pw_or (PW.pt (pw_and (ptTruth K (pv 15) (fun _ => rfl)) (pw_and1 (pt_cmpR op_isNotG (pv 10) pe_bl (nomark _))))) (pw_or1 (PW.pt (pw_and (pt_not (ptTruth K (pv 15) (fun _ => rfl))) (pw_and1 (pt_cmpR op_isNotG (pv 10) pe_bl (nomark _)))))))) (pss_one (ps_ret pe_bl)) pss_nil))))
    (pss_cons (ps_par (i := 11) (j := 12) rfl sc_law.nd rfl rfl (by decide) rfl rfl (pa_cons (pe_call (E := E) A._law_next hr (by rfl) T.mg__law_next T.F__law_next.kp T.b__law_next .nil passE (pa_cons (pv 1) (pa_cons (pv 4) pa_nil))) (pa_cons (pe_call (E := E) A._law_next hr (by rfl) T.mg__law_next T.F__law_next.kp T.b__law_next .nil passE (pa_cons (pv 1) (pa_cons (pv 4) pa_nil))) pa_nil)) (by rfl))
    (pss_cons (ps_if (pt_cmpR op_gt (pe_call (E := E) A._law_next hr (by rfl) T.mg__law_next T.F__law_next.kp T.b__law_next .nil passE (pa_cons (pv 1) (pa_cons pe_int pa_nil))) pe_int (nomark _)) (pss_one (ps_par (i := 11) (j := 12) rfl sc_law.nd rfl rfl (by decide) rfl rfl (pa_cons (pe_callB (call_min2 rfl) (by rfl) T.min boot_min (pa_cons (pv 11) (pa_cons (pv 12) pa_nil))) (pa_cons (pe_callB (call_max2 rfl) (by rfl) T.max boot_max (pa_cons (pv 11) (pa_cons (pv 12) pa_nil))) pa_nil)) (by rfl))) pss_nil)
    (pss_cons (ps_for PassesOwn.never rfl (piSeq K (pe_tup (pa_cons (pe_tup (pa_cons (pv 11) (pa_cons (pv 12) pa_nil))) (pa_cons (pe_tup (pa_cons pe_int (pa_cons (pe_op op_sub (pv 4) pe_int) pa_nil))) (pa_cons (pe_tup (pa_cons (pv 11) (pa_cons (pv 11) pa_nil))) (pa_cons (pe_tup (pa_cons pe_int (pa_cons (pv 12) pa_nil))) pa_nil)))))) (pgTup K (n := 2) rfl (pgs_cons (pg_name (i := 13) sc_law.nd rfl (by first | exact Or.inl rfl | exact Or.inr rfl)) (pgs_cons (pg_name (i := 14) sc_law.nd rfl (by first | exact Or.inl rfl | exact Or.inr rfl)) pgs_nil))) (pss_cons (ps_set (i := 10) sc_law.nd rfl (by first | exact Or.inl rfl | exact Or.inr rfl) (pe_call (E := E) A.prefixes_of hr (by rfl) T.mg_prefixes_of T.F_prefixes_of.kp T.b_prefixes_of .nil passE (pa_cons (pv 13) (pa_cons (pv 14) (pa_cons (pv 3) pa_nil)))))
    (pss_one (ps_if (PW.pt (pw_or (pt_not (ptTruth K (pe_call (E := E) A._law_is_prefixes hr (by rfl) T.mg__law_is_prefixes T.F__law_is_prefixes.kp T.b__law_is_prefixes .nil passE (pa_cons (pv 10) pa_nil)) (fun _ => rfl))) (pw_or1 (pt_cmpR (opNe K hr.units) (pe_callTy (callList K) (by rfl) T.list boot_list (pa_cons (pv 10) pa_nil)) (pe_call (E := E) A._law_greatest hr (by rfl) T.mg__law_greatest T.F__law_greatest.kp T.b__law_greatest .nil passE (pa_cons pe_int (pa_cons (pv 4) (pa_cons (pe_listRg rfl (by rfl) T.list (prg_2 (by rfl) T.range (pv 13) (pe_op (opAdd K) (pv 14) pe_int))) (pa_cons (pv 3) pa_nil))))) (nomark _))))) (pss_one (ps_ret pe_bl)) pss_nil))))
    (pss_cons (ps_set (i := 9) sc_law.nd rfl (by first | exact Or.inl rfl | exact Or.inr rfl) (pe_call (E := E) A._law_some hr (by rfl) T.mg__law_some T.F__law_some.kp T.b__law_some .nil passE (pa_cons (pv 1) (pa_cons (pv 3) pa_nil))))
    (pss_cons (ps_set (i := 10) sc_law.nd rfl (by first | exact Or.inl rfl | exact Or.inr rfl) (pe_call (E := E) A.prefixes_of_set hr (by rfl) T.mg_prefixes_of_set T.F_prefixes_of_set.kp T.b_prefixes_of_set .nil passE (pa_cons (pe_callTy (callTuple K) (by rfl) T.tuple boot_tuple (pa_cons (pv 9) pa_nil)) (pa_cons (pv 3) pa_nil))))
    (pss_one (ps_if (PW.pt (pw_or (pt_not (ptTruth K (pe_call (E := E) A._law_is_prefixes hr (by rfl) T.mg__law_is_prefixes T.F__law_is_prefixes.kp T.b__law_is_prefixes .nil passE (pa_cons (pv 10) pa_nil)) (fun _ => rfl))) (pw_or1 (pt_cmpR (opNe K hr.units) (pe_callTy (callList K) (by rfl) T.list boot_list (pa_cons (pv 10) pa_nil)) (pe_call (E := E) A._law_greatest hr (by rfl) T.mg__law_greatest T.F__law_greatest.kp T.b__law_greatest .nil passE (pa_cons pe_int (pa_cons (pv 4) (pa_cons (pv 9) (pa_cons (pv 3) pa_nil))))) (nomark _))))) (pss_one (ps_ret pe_bl)) pss_nil))))))))))))))
    (pss_one (ps_ret pe_bl)))), ?_⟩)
  exact (sim_seq (Γ1 := [0, 0, 0, 0, 0, 0, 0, 0, 0, 0, 0, 0, 0, 0, 0, 0]) (sim_set (Γ := [0, 0, 0, 0, 0, 0, 0, 0, 0, 0, 0, 0, 0, 0, 0, 0]) (i := 1) (k := 0) (sim_disp (g := .fresh) (sim_pcons (key := .inr "draws") (sim_frz (g' := .fresh) (k := 1) (sim_call (n := 2) (sim_cons (g := .fresh) (sim_var (g := .fresh) rfl) (sim_cons (g := .fresh) (simk_int (g := .fresh) (k := 0)) sim_nil)) rfl)) (sim_pcons (key := .inr "at") (simk_int (g := .fresh) (k := 0)) sim_pnil)) (by decide +kernel) (by decide)) (by decide))
    (sim_seq (Γ1 := [0, 0, 0, 0, 0, 0, 0, 0, 0, 0, 0, 0, 0, 0, 0, 0]) (sim_for (Γ := [0, 0, 0, 0, 0, 0, 0, 0, 0, 0, 0, 0, 0, 0, 0, 0]) (sim_iR1 (sim_cons (g := .fresh) (simk_int (g := .fresh) (k := 0)) sim_nil)) (sim_gN (Γ := [0, 0, 0, 0, 0, 0, 0, 0, 0, 0, 0, 0, 0, 0, 0, 0]) (i := 2) (by decide)) (sim_seq (Γ1 := [0, 0, 0, 0, 0, 0, 0, 0, 0, 0, 0, 0, 0, 0, 0, 0]) (sim_set (Γ := [0, 0, 0, 0, 0, 0, 0, 0, 0, 0, 0, 0, 0, 0, 0, 0]) (i := 3) (k := 0) (sim_call (n := 2) (sim_cons (g := .fresh) (sim_var (g := .fresh) rfl) (sim_cons (g := .fresh) (sim_frz (g' := .fresh) (k := 1) (sim_lst (sim_cons (g := .fresh) (simk_int (g := .fresh) (k := 0)) (sim_cons (g := .fresh) (simk_int (g := .fresh) (k := 0)) (sim_cons (g := .fresh) (simk_int (g := .fresh) (k := 0)) (sim_cons (g := .fresh) (simk_int (g := .fresh) (k := 0)) (sim_cons (g := .fresh) (simk_int (g := .fresh) (k := 0)) (sim_cons (g := .fresh) (simk_int (g := .fresh) (k := 0)) (sim_cons (g := .fresh) (simk_int (g := .fresh) (k := 0)) (sim_cons (g := .fresh) (simk_int (g := .fresh) (k := 0)) sim_nil)))))))) (lenOk rfl))) sim_nil)) rfl) (by decide))
    (sim_seq (Γ1 := [0, 0, 0, 0, 0, 0, 0, 0, 0, 0, 0, 0, 0, 0, 0, 0]) (sim_set (Γ := [0, 0, 0, 0, 0, 0, 0, 0, 0, 0, 0, 0, 0, 0, 0, 0]) (i := 4) (k := 0) (sim_op2 (k := 0) o_shl (simk_int (g := .fresh) (k := 0)) (sim_var (g := .fresh) rfl)) (by decide))
    (sim_seq (Γ1 := [0, 0, 0, 0, 0, 1, 0, 0, 0, 0, 0, 0, 0, 0, 0, 0]) (sim_set (Γ := [0, 0, 0, 0, 0, 0, 0, 0, 0, 0, 0, 0, 0, 0, 0, 0]) (i := 5) (k := 1) (sim_call (n := 2) (sim_cons (g := .fresh) (sim_var (g := .fresh) rfl) (sim_cons (g := .fresh) (sim_frz (g' := .fresh) (k := 1) (sim_op2 (k := 1) (o_add (by decide) (by decide)) (sim_var (g := .fresh) rfl) (simk_int (g := .fresh) (k := 0)))) sim_nil)) rfl) (by decide))
    (sim_seq (Γ1 := [0, 0, 0, 0, 0, 1, 0, 0, 0, 0, 0, 0, 0, 0, 0, 0]) (sim_set (Γ := [0, 0, 0, 0, 0, 1, 0, 0, 0, 0, 0, 0, 0, 0, 0, 0]) (i := 6) (k := 0) (sim_op2 (k := 0) o_shl (simk_int (g := .fresh) (k := 0)) (sim_op2 (k := 0) o_sub (sim_var (g := .fresh) rfl) (sim_varB (k := 1) rfl))) (by decide))
    (sim_seq (Γ1 := [0, 0, 0, 0, 0, 1, 0, 0, 0, 0, 0, 0, 0, 0, 0, 0]) (sim_set (Γ := [0, 0, 0, 0, 0, 1, 0, 0, 0, 0, 0, 0, 0, 0, 0, 0]) (i := 7) (k := 0) (sim_op2 (k := 0) o_mul (sim_call (n := 2) (sim_cons (g := .fresh) (sim_var (g := .fresh) rfl) (sim_cons (g := .fresh) (sim_op2 (k := 0) o_shl (simk_int (g := .fresh) (k := 0)) (sim_varB (k := 1) rfl)) sim_nil)) rfl) (sim_var (g := .fresh) rfl)) (by decide))
    (sim_seq (Γ1 := [0, 0, 0, 0, 0, 0, 0, 0, 0, 0, 0, 0, 0, 0, 0, 0]) (sim_in (Γ2 := [0, 0, 0, 0, 0, 0, 0, 0, 0, 0, 0, 0, 0, 0, 0, 0]) (sim_for (Γ := [0, 0, 0, 0, 0, 0, 0, 0, 0, 0, 0, 0, 0, 0, 0, 0]) (sim_iS (g := .fresh) (simk_tup (g := .fresh) (k := 0) (sim_cons (g := .fresh) (sim_var (g := .fresh) rfl) (sim_cons (g := .fresh) (sim_op2 (k := 0) o_sub (sim_op2 (k := 1) (o_add (by decide) (by decide)) (sim_var (g := .fresh) rfl) (sim_var (g := .fresh) rfl)) (simk_int (g := .fresh) (k := 0))) (sim_cons (g := .fresh) (sim_bi (k := 0) o_min2 (sim_cons (g := .fresh) (sim_frz (g' := .fresh) (k := 1) (sim_op2 (k := 1) (o_add (by decide) (by decide)) (sim_var (g := .fresh) rfl) (sim_var (g := .fresh) rfl))) (sim_cons (g := .fresh) (sim_op2 (k := 0) o_sub (sim_var (g := .fresh) rfl) (simk_int (g := .fresh) (k := 0))) sim_nil))) (sim_cons (g := .fresh) (sim_bi (k := 0) o_max2 (sim_cons (g := .fresh) (sim_op2 (k := 0) o_sub (sim_var (g := .fresh) rfl) (simk_int (g := .fresh) (k := 0))) (sim_cons (g := .fresh) (simk_int (g := .fresh) (k := 0)) sim_nil))) (sim_cons (g := .fresh) (sim_frz (g' := .fresh) (k := 1) (sim_call (n := 2) (sim_cons (g := .fresh) (sim_var (g := .fresh) rfl) (sim_cons (g := .fresh) (sim_var (g := .fresh) rfl) sim_nil)) rfl)) (sim_cons (g := .fresh) (sim_frz (g' := .fresh) (k := 1) (sim_op2 (k := 1) (o_add (by decide) (by decide)) (sim_var (g := .fresh) rfl) (sim_call (n := 2) (sim_cons (g := .fresh) (sim_var (g := .fresh) rfl) (sim_cons (g := .fresh) (sim_var (g := .fresh) rfl) sim_nil)) rfl))) sim_nil)))))) (lenOk rfl))) (sim_gN (Γ := [0, 0, 0, 0, 0, 0, 0, 0, 0, 0, 0, 0, 0, 0, 0, 0]) (i := 8) (by decide)) (sim_seq (Γ1 := [0, 0, 0, 0, 0, 0, 0, 0, 0, 0, 0, 0, 0, 0, 0, 0]) (sim_par (Γ := [0, 0, 0, 0, 0, 0, 0, 0, 0, 0, 0, 0, 0, 0, 0, 0]) (i := 10) (j := 15) (sim_cons (g := .fresh) (sim_frz (g' := .fresh) (k := 1) (sim_call (n := 3) (sim_cons (g := .fresh) (simk_tup (g := .fresh) (k := 0) (sim_cons (g := .fresh) (sim_var (g := .fresh) rfl) (sim_cons (g := .fresh) (sim_var (g := .fresh) rfl) sim_nil)) (lenOk rfl)) (sim_cons (g := .fresh) (sim_var (g := .fresh) rfl) (sim_cons (g := .fresh) (sim_var (g := .fresh) rfl) sim_nil))) rfl)) (sim_cons (g := .fresh) (sim_andV (g := .fresh) (sim_op2 (k := 0) o_ge (sim_var (g := .fresh) rfl) (sim_var (g := .fresh) rfl)) (sim_op2 (k := 0) o_lt (sim_var (g := .fresh) rfl) (sim_op2 (k := 1) (o_add (by decide) (by decide)) (sim_var (g := .fresh) rfl) (sim_var (g := .fresh) rfl)))) sim_nil)) (by decide) (by decide))
    (sim_if (sim_or (sim_and (sim_tru (by decide) (sim_var (g := .fresh) rfl)) (sim_test (k := 0) (g := .fresh) (sim_op2 (k := 0) o_isNot (sim_var (g := .fresh) rfl) (simk_bl (g := .fresh) (k := 0))))) (sim_and (sim_not (sim_tru (by decide) (sim_var (g := .fresh) rfl))) (sim_test (k := 0) (g := .fresh) (sim_op2 (k := 0) o_isNot (sim_var (g := .fresh) rfl) (simk_bl (g := .fresh) (k := 0)))))) (sim_ret (k := 1) (simk_bl (g := .fresh) (k := 1))) sim_next))) (Lower.of (by decide)))
    (sim_seq (Γ1 := [0, 0, 0, 0, 0, 0, 0, 0, 0, 0, 0, 0, 0, 0, 0, 0]) (sim_par (Γ := [0, 0, 0, 0, 0, 0, 0, 0, 0, 0, 0, 0, 0, 0, 0, 0]) (i := 11) (j := 12) (sim_cons (g := .fresh) (sim_frz (g' := .fresh) (k := 1) (sim_call (n := 2) (sim_cons (g := .fresh) (sim_var (g := .fresh) rfl) (sim_cons (g := .fresh) (sim_var (g := .fresh) rfl) sim_nil)) rfl)) (sim_cons (g := .fresh) (sim_frz (g' := .fresh) (k := 1) (sim_call (n := 2) (sim_cons (g := .fresh) (sim_var (g := .fresh) rfl) (sim_cons (g := .fresh) (sim_var (g := .fresh) rfl) sim_nil)) rfl)) sim_nil)) (by decide) (by decide))
    (sim_seq (Γ1 := [0, 0, 0, 0, 0, 0, 0, 0, 0, 0, 0, 0, 0, 0, 0, 0]) (sim_if (sim_test (k := 0) (g := .fresh) (sim_op2 (k := 0) o_gt (sim_call (n := 2) (sim_cons (g := .fresh) (sim_var (g := .fresh) rfl) (sim_cons (g := .fresh) (simk_int (g := .fresh) (k := 0)) sim_nil)) rfl) (simk_int (g := .fresh) (k := 0)))) (sim_par (Γ := [0, 0, 0, 0, 0, 0, 0, 0, 0, 0, 0, 0, 0, 0, 0, 0]) (i := 11) (j := 12) (sim_cons (g := .fresh) (sim_bi (k := 0) o_min2 (sim_cons (g := .fresh) (sim_var (g := .fresh) rfl) (sim_cons (g := .fresh) (sim_var (g := .fresh) rfl) sim_nil))) (sim_cons (g := .fresh) (sim_bi (k := 0) o_max2 (sim_cons (g := .fresh) (sim_var (g := .fresh) rfl) (sim_cons (g := .fresh) (sim_var (g := .fresh) rfl) sim_nil))) sim_nil)) (by decide) (by decide)) sim_next)
    (sim_seq (Γ1 := [0, 0, 0, 0, 0, 0, 0, 0, 0, 0, 0, 0, 0, 0, 0, 0]) (sim_for (Γ := [0, 0, 0, 0, 0, 0, 0, 0, 0, 0, 0, 0, 0, 0, 0, 0]) (sim_iS (g := .fresh) (simk_tup (g := .fresh) (k := 0) (sim_cons (g := .fresh) (simk_tup (g := .fresh) (k := 0) (sim_cons (g := .fresh) (sim_var (g := .fresh) rfl) (sim_cons (g := .fresh) (sim_var (g := .fresh) rfl) sim_nil)) (lenOk rfl)) (sim_cons (g := .fresh) (simk_tup (g := .fresh) (k := 0) (sim_cons (g := .fresh) (simk_int (g := .fresh) (k := 0)) (sim_cons (g := .fresh) (sim_op2 (k := 0) o_sub (sim_var (g := .fresh) rfl) (simk_int (g := .fresh) (k := 0))) sim_nil)) (lenOk rfl)) (sim_cons (g := .fresh) (simk_tup (g := .fresh) (k := 0) (sim_cons (g := .fresh) (sim_var (g := .fresh) rfl) (sim_cons (g := .fresh) (sim_var (g := .fresh) rfl) sim_nil)) (lenOk rfl)) (sim_cons (g := .fresh) (simk_tup (g := .fresh) (k := 0) (sim_cons (g := .fresh) (simk_int (g := .fresh) (k := 0)) (sim_cons (g := .fresh) (sim_var (g := .fresh) rfl) sim_nil)) (lenOk rfl)) sim_nil)))) (lenOk rfl))) (sim_gT (sim_gsC (sim_gN (Γ := [0, 0, 0, 0, 0, 0, 0, 0, 0, 0, 0, 0, 0, 0, 0, 0]) (i := 13) (by decide)) (sim_gsC (sim_gN (Γ := [0, 0, 0, 0, 0, 0, 0, 0, 0, 0, 0, 0, 0, 0, 0, 0]) (i := 14) (by decide)) sim_gsN))) (sim_seq (Γ1 := [0, 0, 0, 0, 0, 0, 0, 0, 0, 0, 1, 0, 0, 0, 0, 0]) (sim_set (Γ := [0, 0, 0, 0, 0, 0, 0, 0, 0, 0, 0, 0, 0, 0, 0, 0]) (i := 10) (k := 1) (sim_call (n := 3) (sim_cons (g := .fresh) (sim_var (g := .fresh) rfl) (sim_cons (g := .fresh) (sim_var (g := .fresh) rfl) (sim_cons (g := .fresh) (sim_var (g := .fresh) rfl) sim_nil))) rfl) (by decide))
    (sim_in (Γ2 := [0, 0, 0, 0, 0, 0, 0, 0, 0, 0, 0, 0, 0, 0, 0, 0]) (sim_if (sim_or (sim_not (sim_tru (by decide) (sim_call (n := 1) (sim_cons (g := .fresh) (sim_var (g := .fresh) rfl) sim_nil) rfl))) (sim_test (k := 0) (g := .fresh) (sim_op2 (k := 0) o_ne (sim_bi1 (k := 1) (o_list (by decide)) (sim_var (g := .fresh) rfl)) (sim_call (n := 4) (sim_cons (g := .fresh) (simk_int (g := .fresh) (k := 0)) (sim_cons (g := .fresh) (sim_var (g := .fresh) rfl) (sim_cons (g := .fresh) (sim_frz (g' := .fresh) (k := 1) (sim_lstRg (sim_rg2 (sim_var (g := .fresh) rfl) (sim_frz (g' := .fresh) (k := 1) (sim_op2 (k := 1) (o_add (by decide) (by decide)) (sim_var (g := .fresh) rfl) (simk_int (g := .fresh) (k := 0))))))) (sim_cons (g := .fresh) (sim_var (g := .fresh) rfl) sim_nil)))) rfl)))) (sim_ret (k := 1) (simk_bl (g := .fresh) (k := 1))) sim_next) (Lower.of (by decide)))))
    (sim_seq (Γ1 := [0, 0, 0, 0, 0, 0, 0, 0, 0, 1, 0, 0, 0, 0, 0, 0]) (sim_set (Γ := [0, 0, 0, 0, 0, 0, 0, 0, 0, 0, 0, 0, 0, 0, 0, 0]) (i := 9) (k := 1) (sim_call (n := 2) (sim_cons (g := .fresh) (sim_var (g := .fresh) rfl) (sim_cons (g := .fresh) (sim_var (g := .fresh) rfl) sim_nil)) rfl) (by decide))
    (sim_seq (Γ1 := [0, 0, 0, 0, 0, 0, 0, 0, 0, 1, 1, 0, 0, 0, 0, 0]) (sim_set (Γ := [0, 0, 0, 0, 0, 0, 0, 0, 0, 1, 0, 0, 0, 0, 0, 0]) (i := 10) (k := 1) (sim_call (n := 2) (sim_cons (g := .fresh) (sim_bi1 (k := 0) (o_tuple (by decide)) (sim_varB (k := 1) rfl)) (sim_cons (g := .fresh) (sim_var (g := .fresh) rfl) sim_nil)) rfl) (by decide))
    (sim_in (Γ2 := [0, 0, 0, 0, 0, 0, 0, 0, 0, 1, 0, 0, 0, 0, 0, 0]) (sim_in (Γ2 := [0, 0, 0, 0, 0, 0, 0, 0, 0, 0, 0, 0, 0, 0, 0, 0]) (sim_if (sim_or (sim_not (sim_tru (by decide) (sim_call (n := 1) (sim_cons (g := .fresh) (sim_var (g := .fresh) rfl) sim_nil) rfl))) (sim_test (k := 0) (g := .fresh) (sim_op2 (k := 0) o_ne (sim_bi1 (k := 1) (o_list (by decide)) (sim_var (g := .fresh) rfl)) (sim_call (n := 4) (sim_cons (g := .fresh) (simk_int (g := .fresh) (k := 0)) (sim_cons (g := .fresh) (sim_var (g := .fresh) rfl) (sim_cons (g := .fresh) (sim_var (g := .fresh) rfl) (sim_cons (g := .fresh) (sim_var (g := .fresh) rfl) sim_nil)))) rfl)))) (sim_ret (k := 1) (simk_bl (g := .fresh) (k := 1))) sim_next) (Lower.of (by decide))) (Lower.of (by decide)))))))))))))))
    (sim_ret (k := 1) (simk_bl (g := .fresh) (k := 1)))))
theorem all_ok (T : Txt K mg ad fd) : ∀ k, All P w K mg base ad fd W CT k
  | 0 => ⟨fn_zero, fn_zero, fn_zero, fn_zero, fn_zero, fn_zero, fn_zero, fn_zero, fn_zero, fn_zero, fn_zero⟩
  | k + 1 => let A := all_ok T k; ⟨ok_covers T A, ok_prefixes_of T A, ok_prefixes_of_set T A, ok__prefixes T A, ok__law_draws T A, ok__law_next T A, ok__law_pick T A, ok__law_greatest T A, ok__law_is_prefixes T A, ok__law_some T A, ok_law T A⟩
end Ob
namespace Ob
open PySem PySem.Spec PyProof.Rows L2 M
variable {W : Nat}
theorem next_of {k : Nat} {xs : List Int} {a : Nat} {t : Sto} {m : Int} (hk : 0 < k) (h : 0 < m) : G W k 5 [.ref 0, .int m] (Sd xs a t) = .ok (.int (nxt xs a m)) (Sd xs (a + 1) t) := by
  obtain ⟨k, rfl⟩ : ∃ j, k = j + 1 := ⟨k - 1, by omega⟩
  exact next_eq h
theorem hnx {k : Nat} {xs : List Int} (hk : 0 < k) : Hnx (G W k 5) xs := fun a t m hm => next_of hk hm
theorem hpk {k : Nat} {xs : List Int} (hk : 1 < k) : Hpk (G W k 6) xs := fun a t ds h => by
  obtain ⟨k, rfl⟩ : ∃ j, k = j + 1 := ⟨k - 1, by omega⟩
  exact pick_eq (fun m hm => next_of (by omega) hm) h
/-! ### the prefixes of numbers -/
def tw (r : Nat) : Int := ((2 ^ r : Nat) : Int)
theorem tw_pos (r : Nat) : 0 < tw r := by unfold tw; have := Nat.two_pow_pos r; omega
theorem tw_S (r : Nat) : tw (r + 1) = tw r + tw r := by unfold tw; rw [Nat.pow_succ]; omega
theorem tw_go (r : Nat) : (1 : Int) * 2 ^ r = tw r := by unfold tw; rw [Int.natCast_pow]; simp
theorem tw_le {r : Nat} (h : r ≤ 12) : tw r ≤ 4096 := by
  unfold tw
  have := Nat.pow_le_pow_right (show 0 < 2 by decide) h
  omega
theorem tw_lt (r k l : Nat) : (tw r * 2 ^ k < 1 * 2 ^ (l + r)) ↔ k < l := by
  have e1 : tw r * 2 ^ k = ((2 ^ (r + k) : Nat) : Int) := by unfold tw; rw [Nat.pow_add, Int.natCast_mul]; simp [Int.natCast_pow]
  rw [e1, tw_go]
  unfold tw
  rw [Int.ofNat_lt, Nat.pow_lt_pow_iff_right (by decide)]
  omega
def lo (m : Int) (ns : List Int) : List Int := ns.filter fun n => decide (n < m)
def hi (m : Int) (ns : List Int) : List Int := ns.filter fun n => decide (m ≤ n)
def pf : Nat → List Int → Int → Nat → List (Int × Int)
  | 0, ns, v, l => if ns = [] then [] else [(v, (l : Int))]
  | r + 1, ns, v, l => if ns = [] then [] else if (ns.length : Int) = tw (r + 1) then [(v, (l : Int))] else pf r (lo (v + tw r) ns) v (l + 1) ++ pf r (hi (v + tw r) ns) (v + tw r) (l + 1)
structure Gd (ns : List Int) (v : Int) (r : Nat) : Prop where
  nd : ns.Nodup
  bd : ∀ n ∈ ns, v ≤ n ∧ n < v + tw r
theorem Gd.lo {ns : List Int} {v : Int} {r : Nat} (h : Gd ns v (r + 1)) : Gd (lo (v + tw r) ns) v r where
  nd := List.Nodup.sublist List.filter_sublist h.nd
  bd := fun n hn => by
    obtain ⟨h1, h2⟩ := List.mem_filter.mp hn
    exact ⟨(h.bd n h1).1, by simpa using h2⟩
theorem Gd.hi {ns : List Int} {v : Int} {r : Nat} (h : Gd ns v (r + 1)) : Gd (hi (v + tw r) ns) (v + tw r) r where
  nd := List.Nodup.sublist List.filter_sublist h.nd
  bd := fun n hn => by
    obtain ⟨h1, h2⟩ := List.mem_filter.mp hn
    have := (h.bd n h1).2
    rw [tw_S] at this
    exact ⟨by simpa using h2, by omega⟩
theorem Gd.one {ns : List Int} {v : Int} (h : Gd ns v 0) (hn : ns ≠ []) : ns.length = 1 := by
  have l := nodup_len (ys := [v]) h.nd fun n hn => by
    have := h.bd n hn
    have e : tw 0 = 1 := rfl
    rw [e] at this
    rw [show n = v by omega]
    exact List.mem_cons_self
  have p := List.length_pos_iff.mpr hn
  simp only [List.length_cons, List.length_nil] at l
  omega
theorem part_len (m : Int) : ∀ ns : List Int, (lo m ns).length + (hi m ns).length = ns.length
  | [] => rfl
  | n :: ns => by
    have ih := part_len m ns
    unfold lo hi at *
    by_cases c : n < m
    · have c2 : ¬ m ≤ n := by omega
      rw [List.filter_cons_of_pos (by simpa using c), List.filter_cons_of_neg (by simpa using c2), List.length_cons, List.length_cons]
      omega
    · have c2 : m ≤ n := by omega
      rw [List.filter_cons_of_neg (by simpa using c), List.filter_cons_of_pos (by simpa using c2), List.length_cons, List.length_cons]
      omega
theorem pf_len : ∀ (r : Nat) (ns : List Int) (v : Int) (l : Nat), (pf r ns v l).length ≤ ns.length
  | 0, ns, v, l => by
    unfold pf
    split
    · exact Nat.zero_le _
    · rename_i h
      exact List.length_pos_iff.mpr h
  | r + 1, ns, v, l => by
    unfold pf
    split
    · exact Nat.zero_le _
    · rename_i h
      split
      · exact List.length_pos_iff.mpr h
      · rw [List.length_append]
        have := pf_len r (lo (v + tw r) ns) v (l + 1)
        have := pf_len r (hi (v + tw r) ns) (v + tw r) (l + 1)
        have := part_len (v + tw r) ns
        omega
def ltD (m : Int) (d : D) : Bool := match d with
  | .int n => decide (n < m)
  | _ => false
def geD (m : Int) (d : D) : Bool := match d with
  | .int n => decide (m ≤ n)
  | _ => false
theorem lo_map {m : Int} {ns : List Int} : ((ns.map D.int).filter (ltD m)).map id = (lo m ns).map .int := by
  rw [List.map_id, List.filter_map]; rfl
theorem hi_map {m : Int} {ns : List Int} : ((ns.map D.int).filter (geD m)).map id = (hi m ns).map .int := by
  rw [List.map_id, List.filter_map]; rfl
theorem pre_of : ∀ (r k : Nat) (ns : List Int) (v : Int) (l b : Nat) (s : Sto), r < k → Gd ns v r → b = l + r → b ≤ 12 → ns.length ≤ 4096 → G W k 3 [.lst (ns.map .int), .int v, .int l, .int b] s = .ok (.lst ((pf r ns v l).map p2)) s := by
  intro r
  induction r with
  | zero =>
    intro k ns v l b s hk hg hb hb2 hl
    obtain ⟨k, rfl⟩ : ∃ j, k = j + 1 := ⟨k - 1, by omega⟩
    show fnM 7 (m__prefixes W (G W k)) _ _ = _
    apply Ok.eq
    unfold m__prefixes pf
    by_cases c : ns = []
    · subst c
      simp only [M.ok_ok, M.ok_no, M.oko_some, M.ok_eC, M.ok_eV0, M.ok_eVs, M.ok_e1, M.k1, M.ok_e2, M.k2a, M.k2, M.ok_evs0, M.ok_evs, M.kA, M.ok_eTup, M.ok_eLst, M.ok_eB, M.ok_eCall, M.kTup, M.kLst, M.kB, M.kCall, M.ok_eIf, M.kIfE, M.ok_eAnd, M.kAnd, M.ok_eOr, M.kOr, M.ok_eNot, M.kNotE, M.ok_eChain, M.kCh, M.kCh2, M.ok_tOfE, M.kTo, M.ok_tTru, M.kTru, M.ok_tAnd, M.ok_tOr, M.ok_tNot, M.kTAnd, M.kTOr, M.kTNot, M.ok_tYes, M.ok_pNo, M.ok_pSome, M.kPs, M.ok_eCut, M.kCut, M.kCut1, M.kCut2, M.ok_eDGet, M.kDg, M.kDg2, M.ok_sSeq, M.kSeq_nx, M.kSeq_rt, M.kSeq_bk, M.kSeq_ct, M.ok_sSet, M.kSet, M.ok_sAsg, M.kAsg, M.ok_sPar, M.kPar, M.ok_sDrop, M.kDrop, M.ok_sRet, M.kRet, M.ok_sRetN, M.ok_sNext, M.ok_sBrk, M.ok_sCnt, M.ok_sIf, M.kIf, M.kAug, M.kApp, M.ok_sFor, M.kFor, M.ok_fnM, M.kFn_rt, M.kFn_nx, M.ok_iS, M.kIS_lst, M.kIS_tup, M.ok_iR1, M.kR1, M.ok_iR2, M.kR2, M.ok_eLstRg, M.ok_eTupRg, M.kRg, M.ok_rg1, M.kRg1, M.ok_rg2, M.kRg2, M.kRg2b, M.ok_eM1, M.kM1, M.kM1b, M.ok_eComp, M.kComp, M.kComp1, M.ok_eComp2, M.kCompC, M.kCompB, M.ok_eDisp, M.kDisp, M.ok_sAug1, M.ok_sApp1, M.kApp1, M.kIt_nx, M.kIt_ct, M.kIt_bk, M.kIt_rt, M.v_sub, M.v_addI, M.v_addA, M.v_subA, M.v_lt, M.v_le, M.v_gt, M.v_ge, M.v_int, M.v_lenL, M.v_lenT, M.v_lenZ, M.v_abs, M.v_max, M.v_min, M.v_neg, M.v_ixL, M.v_ixT, M.v_ixZ, M.v_cutL, M.v_cutT, M.v_tupL, M.v_tupT, M.v_lstL, M.v_lstT, M.tr_bl, M.tr_int, M.tr_lst, M.tr_tup, M.tr_non, M.env0_go, M.g_N, M.g_T, M.g_sC, M.g_sN, M.wipe0, M.wipeS, M.ge_0, M.ge_S, List.set_cons_zero, List.set_cons_succ, List.map_cons, List.map_nil, List.cons_append, List.nil_append, List.length_cons, List.length_nil, Nat.reduceAdd, Nat.reduceSub, List.replicate_succ, List.replicate_zero, Option.bind_some, String.reduceBEq, Int.reduceBEq, Bool.or_self, if_true, if_false, Bool.false_eq_true, Bool.not_true, Bool.not_false, true_and, and_true, decide_true, decide_false, Option.map_some, M.is_non_int, M.is_non_bool, M.is_non_str, M.is_non_tuple, M.is_non_list, M.is_non_dict, M.is_bl_int, M.is_bl_bool, M.is_bl_str, M.is_bl_tuple, M.is_bl_list, M.is_bl_dict, M.is_int_int, M.is_int_bool, M.is_int_str, M.is_int_tuple, M.is_int_list, M.is_int_dict, M.is_str_int, M.is_str_bool, M.is_str_str, M.is_str_tuple, M.is_str_list, M.is_str_dict, M.is_tup_int, M.is_tup_bool, M.is_tup_str, M.is_tup_tuple, M.is_tup_list, M.is_tup_dict, M.is_lst_int, M.is_lst_bool, M.is_lst_str, M.is_lst_tuple, M.is_lst_list, M.is_lst_dict, M.isn_non, M.isn_bl, M.isn_int, M.isn_str, M.isn_tup, M.isn_lst, M.str_beq, M.f_non, M.f_bl, M.f_int, M.f_str, M.fe_str, M.fe_int, M.fe_si, M.fe_is, M.in_tup, M.in_lst, M.nin_tup, M.nin_lst, M.at_0, M.at_1, M.at_2, M.at_3, M.eq_int, M.ne_int, M.eq_bl, M.eq_nil, M.eq_str, M.ne_str, List.all_cons, List.all_nil, List.any_cons, List.any_nil, Bool.and_self, Bool.or_false, Bool.false_or, Bool.or_true, Bool.true_or, Bool.and_true, Bool.true_and, Bool.and_false, Bool.false_and, beq_self_eq_true, bne_self_eq_false, M.kCe, M.kCt, M.kForT_nx, M.kForT_ct, M.kForT_bk, M.kForT_rt, M.cut_1, M.all_1, M.all_2, M.any_1, M.any_2, M.sum_1, M.sum_2, M.all_map, M.any_map, M.sum_map, M.ok_eJs, M.ok_jsN, M.ok_jsC, M.kJs, List.isEmpty_nil]
    · have h1 := hg.one c
      have e1 : (b : Int) - l = 0 := by omega
      have e2 : (ns.map D.int).isEmpty = false := by cases ns with
        | nil => exact absurd rfl c
        | cons => rfl
      have e3 : ((ns.length : Nat) : Int) == 1 * 2 ^ (0 : Int).toNat := by rw [h1]; rfl
      simp only [M.ok_ok, M.ok_no, M.oko_some, M.ok_eC, M.ok_eV0, M.ok_eVs, M.ok_e1, M.k1, M.ok_e2, M.k2a, M.k2, M.ok_evs0, M.ok_evs, M.kA, M.ok_eTup, M.ok_eLst, M.ok_eB, M.ok_eCall, M.kTup, M.kLst, M.kB, M.kCall, M.ok_eIf, M.kIfE, M.ok_eAnd, M.kAnd, M.ok_eOr, M.kOr, M.ok_eNot, M.kNotE, M.ok_eChain, M.kCh, M.kCh2, M.ok_tOfE, M.kTo, M.ok_tTru, M.kTru, M.ok_tAnd, M.ok_tOr, M.ok_tNot, M.kTAnd, M.kTOr, M.kTNot, M.ok_tYes, M.ok_pNo, M.ok_pSome, M.kPs, M.ok_eCut, M.kCut, M.kCut1, M.kCut2, M.ok_eDGet, M.kDg, M.kDg2, M.ok_sSeq, M.kSeq_nx, M.kSeq_rt, M.kSeq_bk, M.kSeq_ct, M.ok_sSet, M.kSet, M.ok_sAsg, M.kAsg, M.ok_sPar, M.kPar, M.ok_sDrop, M.kDrop, M.ok_sRet, M.kRet, M.ok_sRetN, M.ok_sNext, M.ok_sBrk, M.ok_sCnt, M.ok_sIf, M.kIf, M.kAug, M.kApp, M.ok_sFor, M.kFor, M.ok_fnM, M.kFn_rt, M.kFn_nx, M.ok_iS, M.kIS_lst, M.kIS_tup, M.ok_iR1, M.kR1, M.ok_iR2, M.kR2, M.ok_eLstRg, M.ok_eTupRg, M.kRg, M.ok_rg1, M.kRg1, M.ok_rg2, M.kRg2, M.kRg2b, M.ok_eM1, M.kM1, M.kM1b, M.ok_eComp, M.kComp, M.kComp1, M.ok_eComp2, M.kCompC, M.kCompB, M.ok_eDisp, M.kDisp, M.ok_sAug1, M.ok_sApp1, M.kApp1, M.kIt_nx, M.kIt_ct, M.kIt_bk, M.kIt_rt, M.v_sub, M.v_addI, M.v_addA, M.v_subA, M.v_lt, M.v_le, M.v_gt, M.v_ge, M.v_int, M.v_lenL, M.v_lenT, M.v_lenZ, M.v_abs, M.v_max, M.v_min, M.v_neg, M.v_ixL, M.v_ixT, M.v_ixZ, M.v_cutL, M.v_cutT, M.v_tupL, M.v_tupT, M.v_lstL, M.v_lstT, M.tr_bl, M.tr_int, M.tr_lst, M.tr_tup, M.tr_non, M.env0_go, M.g_N, M.g_T, M.g_sC, M.g_sN, M.wipe0, M.wipeS, M.ge_0, M.ge_S, List.set_cons_zero, List.set_cons_succ, List.map_cons, List.map_nil, List.cons_append, List.nil_append, List.length_cons, List.length_nil, Nat.reduceAdd, Nat.reduceSub, List.replicate_succ, List.replicate_zero, Option.bind_some, String.reduceBEq, Int.reduceBEq, Bool.or_self, if_true, if_false, Bool.false_eq_true, Bool.not_true, Bool.not_false, true_and, and_true, decide_true, decide_false, Option.map_some, M.is_non_int, M.is_non_bool, M.is_non_str, M.is_non_tuple, M.is_non_list, M.is_non_dict, M.is_bl_int, M.is_bl_bool, M.is_bl_str, M.is_bl_tuple, M.is_bl_list, M.is_bl_dict, M.is_int_int, M.is_int_bool, M.is_int_str, M.is_int_tuple, M.is_int_list, M.is_int_dict, M.is_str_int, M.is_str_bool, M.is_str_str, M.is_str_tuple, M.is_str_list, M.is_str_dict, M.is_tup_int, M.is_tup_bool, M.is_tup_str, M.is_tup_tuple, M.is_tup_list, M.is_tup_dict, M.is_lst_int, M.is_lst_bool, M.is_lst_str, M.is_lst_tuple, M.is_lst_list, M.is_lst_dict, M.isn_non, M.isn_bl, M.isn_int, M.isn_str, M.isn_tup, M.isn_lst, M.str_beq, M.f_non, M.f_bl, M.f_int, M.f_str, M.fe_str, M.fe_int, M.fe_si, M.fe_is, M.in_tup, M.in_lst, M.nin_tup, M.nin_lst, M.at_0, M.at_1, M.at_2, M.at_3, M.eq_int, M.ne_int, M.eq_bl, M.eq_nil, M.eq_str, M.ne_str, List.all_cons, List.all_nil, List.any_cons, List.any_nil, Bool.and_self, Bool.or_false, Bool.false_or, Bool.or_true, Bool.true_or, Bool.and_true, Bool.true_and, Bool.and_false, Bool.false_and, beq_self_eq_true, bne_self_eq_false, M.kCe, M.kCt, M.kForT_nx, M.kForT_ct, M.kForT_bk, M.kForT_rt, M.cut_1, M.all_1, M.all_2, M.any_1, M.any_2, M.sum_1, M.sum_2, M.all_map, M.any_map, M.sum_map, M.ok_eJs, M.ok_jsN, M.ok_jsC, M.kJs, e1, e2, v_shl (show (-(2 ^ 64) : Int) < 1 by decide) (show (1 : Int) < 2 ^ 64 by decide) (show (0 : Int) ≤ 0 by decide) (show (0 : Int) ≤ 1000000 by decide), List.length_map, e3]
      rw [if_neg c]
      rfl
  | succ r ih =>
    intro k ns v l b s hk hg hb hb2 hl
    obtain ⟨k, rfl⟩ : ∃ j, k = j + 1 := ⟨k - 1, by omega⟩
    show fnM 7 (m__prefixes W (G W k)) _ _ = _
    have i1 := ih k (lo (v + tw r) ns) v (l + 1) b s (by omega) hg.lo (by omega) hb2 (by have := part_len (v + tw r) ns; omega)
    have i2 := ih k (hi (v + tw r) ns) (v + tw r) (l + 1) b s (by omega) hg.hi (by omega) hb2 (by have := part_len (v + tw r) ns; omega)
    have sl : sizeLine = 16777216 := rfl
    generalize G W k = g at i1 i2 ⊢
    apply Ok.eq
    unfold m__prefixes pf
    by_cases c : ns = []
    · subst c
      simp only [M.ok_ok, M.ok_no, M.oko_some, M.ok_eC, M.ok_eV0, M.ok_eVs, M.ok_e1, M.k1, M.ok_e2, M.k2a, M.k2, M.ok_evs0, M.ok_evs, M.kA, M.ok_eTup, M.ok_eLst, M.ok_eB, M.ok_eCall, M.kTup, M.kLst, M.kB, M.kCall, M.ok_eIf, M.kIfE, M.ok_eAnd, M.kAnd, M.ok_eOr, M.kOr, M.ok_eNot, M.kNotE, M.ok_eChain, M.kCh, M.kCh2, M.ok_tOfE, M.kTo, M.ok_tTru, M.kTru, M.ok_tAnd, M.ok_tOr, M.ok_tNot, M.kTAnd, M.kTOr, M.kTNot, M.ok_tYes, M.ok_pNo, M.ok_pSome, M.kPs, M.ok_eCut, M.kCut, M.kCut1, M.kCut2, M.ok_eDGet, M.kDg, M.kDg2, M.ok_sSeq, M.kSeq_nx, M.kSeq_rt, M.kSeq_bk, M.kSeq_ct, M.ok_sSet, M.kSet, M.ok_sAsg, M.kAsg, M.ok_sPar, M.kPar, M.ok_sDrop, M.kDrop, M.ok_sRet, M.kRet, M.ok_sRetN, M.ok_sNext, M.ok_sBrk, M.ok_sCnt, M.ok_sIf, M.kIf, M.kAug, M.kApp, M.ok_sFor, M.kFor, M.ok_fnM, M.kFn_rt, M.kFn_nx, M.ok_iS, M.kIS_lst, M.kIS_tup, M.ok_iR1, M.kR1, M.ok_iR2, M.kR2, M.ok_eLstRg, M.ok_eTupRg, M.kRg, M.ok_rg1, M.kRg1, M.ok_rg2, M.kRg2, M.kRg2b, M.ok_eM1, M.kM1, M.kM1b, M.ok_eComp, M.kComp, M.kComp1, M.ok_eComp2, M.kCompC, M.kCompB, M.ok_eDisp, M.kDisp, M.ok_sAug1, M.ok_sApp1, M.kApp1, M.kIt_nx, M.kIt_ct, M.kIt_bk, M.kIt_rt, M.v_sub, M.v_addI, M.v_addA, M.v_subA, M.v_lt, M.v_le, M.v_gt, M.v_ge, M.v_int, M.v_lenL, M.v_lenT, M.v_lenZ, M.v_abs, M.v_max, M.v_min, M.v_neg, M.v_ixL, M.v_ixT, M.v_ixZ, M.v_cutL, M.v_cutT, M.v_tupL, M.v_tupT, M.v_lstL, M.v_lstT, M.tr_bl, M.tr_int, M.tr_lst, M.tr_tup, M.tr_non, M.env0_go, M.g_N, M.g_T, M.g_sC, M.g_sN, M.wipe0, M.wipeS, M.ge_0, M.ge_S, List.set_cons_zero, List.set_cons_succ, List.map_cons, List.map_nil, List.cons_append, List.nil_append, List.length_cons, List.length_nil, Nat.reduceAdd, Nat.reduceSub, List.replicate_succ, List.replicate_zero, Option.bind_some, String.reduceBEq, Int.reduceBEq, Bool.or_self, if_true, if_false, Bool.false_eq_true, Bool.not_true, Bool.not_false, true_and, and_true, decide_true, decide_false, Option.map_some, M.is_non_int, M.is_non_bool, M.is_non_str, M.is_non_tuple, M.is_non_list, M.is_non_dict, M.is_bl_int, M.is_bl_bool, M.is_bl_str, M.is_bl_tuple, M.is_bl_list, M.is_bl_dict, M.is_int_int, M.is_int_bool, M.is_int_str, M.is_int_tuple, M.is_int_list, M.is_int_dict, M.is_str_int, M.is_str_bool, M.is_str_str, M.is_str_tuple, M.is_str_list, M.is_str_dict, M.is_tup_int, M.is_tup_bool, M.is_tup_str, M.is_tup_tuple, M.is_tup_list, M.is_tup_dict, M.is_lst_int, M.is_lst_bool, M.is_lst_str, M.is_lst_tuple, M.is_lst_list, M.is_lst_dict, M.isn_non, M.isn_bl, M.isn_int, M.isn_str, M.isn_tup, M.isn_lst, M.str_beq, M.f_non, M.f_bl, M.f_int, M.f_str, M.fe_str, M.fe_int, M.fe_si, M.fe_is, M.in_tup, M.in_lst, M.nin_tup, M.nin_lst, M.at_0, M.at_1, M.at_2, M.at_3, M.eq_int, M.ne_int, M.eq_bl, M.eq_nil, M.eq_str, M.ne_str, List.all_cons, List.all_nil, List.any_cons, List.any_nil, Bool.and_self, Bool.or_false, Bool.false_or, Bool.or_true, Bool.true_or, Bool.and_true, Bool.true_and, Bool.and_false, Bool.false_and, beq_self_eq_true, bne_self_eq_false, M.kCe, M.kCt, M.kForT_nx, M.kForT_ct, M.kForT_bk, M.kForT_rt, M.cut_1, M.all_1, M.all_2, M.any_1, M.any_2, M.sum_1, M.sum_2, M.all_map, M.any_map, M.sum_map, M.ok_eJs, M.ok_jsN, M.ok_jsC, M.kJs, List.isEmpty_nil]
    · have e2 : (ns.map D.int).isEmpty = false := by cases ns with
        | nil => exact absurd rfl c
        | cons => rfl
      have e1 : (b : Int) - l = ((r + 1 : Nat) : Int) := by omega
      have e1' : ((r + 1 : Nat) : Int) - 1 = (r : Nat) := by omega
      have e4 : (l : Int) + 1 = ((l + 1 : Nat) : Int) := by omega
      have s1 := v_shl (i := 1) (j := ((r + 1 : Nat) : Int)) (by decide) (by decide) (by omega) (by omega)
      have s2 := v_shl (i := 1) (j := ((r : Nat) : Int)) (by decide) (by decide) (by omega) (by omega)
      rw [Int.toNat_natCast, tw_go] at s1 s2
      rw [if_neg c]
      by_cases c2 : (ns.length : Int) = tw (r + 1)
      · have c3 : ((ns.length : Int) == tw (r + 1)) = true := beq_iff_eq.mpr c2
        simp only [M.ok_ok, M.ok_no, M.oko_some, M.ok_eC, M.ok_eV0, M.ok_eVs, M.ok_e1, M.k1, M.ok_e2, M.k2a, M.k2, M.ok_evs0, M.ok_evs, M.kA, M.ok_eTup, M.ok_eLst, M.ok_eB, M.ok_eCall, M.kTup, M.kLst, M.kB, M.kCall, M.ok_eIf, M.kIfE, M.ok_eAnd, M.kAnd, M.ok_eOr, M.kOr, M.ok_eNot, M.kNotE, M.ok_eChain, M.kCh, M.kCh2, M.ok_tOfE, M.kTo, M.ok_tTru, M.kTru, M.ok_tAnd, M.ok_tOr, M.ok_tNot, M.kTAnd, M.kTOr, M.kTNot, M.ok_tYes, M.ok_pNo, M.ok_pSome, M.kPs, M.ok_eCut, M.kCut, M.kCut1, M.kCut2, M.ok_eDGet, M.kDg, M.kDg2, M.ok_sSeq, M.kSeq_nx, M.kSeq_rt, M.kSeq_bk, M.kSeq_ct, M.ok_sSet, M.kSet, M.ok_sAsg, M.kAsg, M.ok_sPar, M.kPar, M.ok_sDrop, M.kDrop, M.ok_sRet, M.kRet, M.ok_sRetN, M.ok_sNext, M.ok_sBrk, M.ok_sCnt, M.ok_sIf, M.kIf, M.kAug, M.kApp, M.ok_sFor, M.kFor, M.ok_fnM, M.kFn_rt, M.kFn_nx, M.ok_iS, M.kIS_lst, M.kIS_tup, M.ok_iR1, M.kR1, M.ok_iR2, M.kR2, M.ok_eLstRg, M.ok_eTupRg, M.kRg, M.ok_rg1, M.kRg1, M.ok_rg2, M.kRg2, M.kRg2b, M.ok_eM1, M.kM1, M.kM1b, M.ok_eComp, M.kComp, M.kComp1, M.ok_eComp2, M.kCompC, M.kCompB, M.ok_eDisp, M.kDisp, M.ok_sAug1, M.ok_sApp1, M.kApp1, M.kIt_nx, M.kIt_ct, M.kIt_bk, M.kIt_rt, M.v_sub, M.v_addI, M.v_addA, M.v_subA, M.v_lt, M.v_le, M.v_gt, M.v_ge, M.v_int, M.v_lenL, M.v_lenT, M.v_lenZ, M.v_abs, M.v_max, M.v_min, M.v_neg, M.v_ixL, M.v_ixT, M.v_ixZ, M.v_cutL, M.v_cutT, M.v_tupL, M.v_tupT, M.v_lstL, M.v_lstT, M.tr_bl, M.tr_int, M.tr_lst, M.tr_tup, M.tr_non, M.env0_go, M.g_N, M.g_T, M.g_sC, M.g_sN, M.wipe0, M.wipeS, M.ge_0, M.ge_S, List.set_cons_zero, List.set_cons_succ, List.map_cons, List.map_nil, List.cons_append, List.nil_append, List.length_cons, List.length_nil, Nat.reduceAdd, Nat.reduceSub, List.replicate_succ, List.replicate_zero, Option.bind_some, String.reduceBEq, Int.reduceBEq, Bool.or_self, if_true, if_false, Bool.false_eq_true, Bool.not_true, Bool.not_false, true_and, and_true, decide_true, decide_false, Option.map_some, M.is_non_int, M.is_non_bool, M.is_non_str, M.is_non_tuple, M.is_non_list, M.is_non_dict, M.is_bl_int, M.is_bl_bool, M.is_bl_str, M.is_bl_tuple, M.is_bl_list, M.is_bl_dict, M.is_int_int, M.is_int_bool, M.is_int_str, M.is_int_tuple, M.is_int_list, M.is_int_dict, M.is_str_int, M.is_str_bool, M.is_str_str, M.is_str_tuple, M.is_str_list, M.is_str_dict, M.is_tup_int, M.is_tup_bool, M.is_tup_str, M.is_tup_tuple, M.is_tup_list, M.is_tup_dict, M.is_lst_int, M.is_lst_bool, M.is_lst_str, M.is_lst_tuple, M.is_lst_list, M.is_lst_dict, M.isn_non, M.isn_bl, M.isn_int, M.isn_str, M.isn_tup, M.isn_lst, M.str_beq, M.f_non, M.f_bl, M.f_int, M.f_str, M.fe_str, M.fe_int, M.fe_si, M.fe_is, M.in_tup, M.in_lst, M.nin_tup, M.nin_lst, M.at_0, M.at_1, M.at_2, M.at_3, M.eq_int, M.ne_int, M.eq_bl, M.eq_nil, M.eq_str, M.ne_str, List.all_cons, List.all_nil, List.any_cons, List.any_nil, Bool.and_self, Bool.or_false, Bool.false_or, Bool.or_true, Bool.true_or, Bool.and_true, Bool.true_and, Bool.and_false, Bool.false_and, beq_self_eq_true, bne_self_eq_false, M.kCe, M.kCt, M.kForT_nx, M.kForT_ct, M.kForT_bk, M.kForT_rt, M.cut_1, M.all_1, M.all_2, M.any_1, M.any_2, M.sum_1, M.sum_2, M.all_map, M.any_map, M.sum_map, M.ok_eJs, M.ok_jsN, M.ok_jsC, M.kJs, e2, e1, s1, List.length_map, c3]
        rw [if_pos c2]
        rfl
      · have c3 : ((ns.length : Int) == tw (r + 1)) = false := beq_eq_false_iff_ne.mpr c2
        simp only [M.ok_ok, M.ok_no, M.oko_some, M.ok_eC, M.ok_eV0, M.ok_eVs, M.ok_e1, M.k1, M.ok_e2, M.k2a, M.k2, M.ok_evs0, M.ok_evs, M.kA, M.ok_eTup, M.ok_eLst, M.ok_eB, M.ok_eCall, M.kTup, M.kLst, M.kB, M.kCall, M.ok_eIf, M.kIfE, M.ok_eAnd, M.kAnd, M.ok_eOr, M.kOr, M.ok_eNot, M.kNotE, M.ok_eChain, M.kCh, M.kCh2, M.ok_tOfE, M.kTo, M.ok_tTru, M.kTru, M.ok_tAnd, M.ok_tOr, M.ok_tNot, M.kTAnd, M.kTOr, M.kTNot, M.ok_tYes, M.ok_pNo, M.ok_pSome, M.kPs, M.ok_eCut, M.kCut, M.kCut1, M.kCut2, M.ok_eDGet, M.kDg, M.kDg2, M.ok_sSeq, M.kSeq_nx, M.kSeq_rt, M.kSeq_bk, M.kSeq_ct, M.ok_sSet, M.kSet, M.ok_sAsg, M.kAsg, M.ok_sPar, M.kPar, M.ok_sDrop, M.kDrop, M.ok_sRet, M.kRet, M.ok_sRetN, M.ok_sNext, M.ok_sBrk, M.ok_sCnt, M.ok_sIf, M.kIf, M.kAug, M.kApp, M.ok_sFor, M.kFor, M.ok_fnM, M.kFn_rt, M.kFn_nx, M.ok_iS, M.kIS_lst, M.kIS_tup, M.ok_iR1, M.kR1, M.ok_iR2, M.kR2, M.ok_eLstRg, M.ok_eTupRg, M.kRg, M.ok_rg1, M.kRg1, M.ok_rg2, M.kRg2, M.kRg2b, M.ok_eM1, M.kM1, M.kM1b, M.ok_eComp, M.kComp, M.kComp1, M.ok_eComp2, M.kCompC, M.kCompB, M.ok_eDisp, M.kDisp, M.ok_sAug1, M.ok_sApp1, M.kApp1, M.kIt_nx, M.kIt_ct, M.kIt_bk, M.kIt_rt, M.v_sub, M.v_addI, M.v_addA, M.v_subA, M.v_lt, M.v_le, M.v_gt, M.v_ge, M.v_int, M.v_lenL, M.v_lenT, M.v_lenZ, M.v_abs, M.v_max, M.v_min, M.v_neg, M.v_ixL, M.v_ixT, M.v_ixZ, M.v_cutL, M.v_cutT, M.v_tupL, M.v_tupT, M.v_lstL, M.v_lstT, M.tr_bl, M.tr_int, M.tr_lst, M.tr_tup, M.tr_non, M.env0_go, M.g_N, M.g_T, M.g_sC, M.g_sN, M.wipe0, M.wipeS, M.ge_0, M.ge_S, List.set_cons_zero, List.set_cons_succ, List.map_cons, List.map_nil, List.cons_append, List.nil_append, List.length_cons, List.length_nil, Nat.reduceAdd, Nat.reduceSub, List.replicate_succ, List.replicate_zero, Option.bind_some, String.reduceBEq, Int.reduceBEq, Bool.or_self, if_true, if_false, Bool.false_eq_true, Bool.not_true, Bool.not_false, true_and, and_true, decide_true, decide_false, Option.map_some, M.is_non_int, M.is_non_bool, M.is_non_str, M.is_non_tuple, M.is_non_list, M.is_non_dict, M.is_bl_int, M.is_bl_bool, M.is_bl_str, M.is_bl_tuple, M.is_bl_list, M.is_bl_dict, M.is_int_int, M.is_int_bool, M.is_int_str, M.is_int_tuple, M.is_int_list, M.is_int_dict, M.is_str_int, M.is_str_bool, M.is_str_str, M.is_str_tuple, M.is_str_list, M.is_str_dict, M.is_tup_int, M.is_tup_bool, M.is_tup_str, M.is_tup_tuple, M.is_tup_list, M.is_tup_dict, M.is_lst_int, M.is_lst_bool, M.is_lst_str, M.is_lst_tuple, M.is_lst_list, M.is_lst_dict, M.isn_non, M.isn_bl, M.isn_int, M.isn_str, M.isn_tup, M.isn_lst, M.str_beq, M.f_non, M.f_bl, M.f_int, M.f_str, M.fe_str, M.fe_int, M.fe_si, M.fe_is, M.in_tup, M.in_lst, M.nin_tup, M.nin_lst, M.at_0, M.at_1, M.at_2, M.at_3, M.eq_int, M.ne_int, M.eq_bl, M.eq_nil, M.eq_str, M.ne_str, List.all_cons, List.all_nil, List.any_cons, List.any_nil, Bool.and_self, Bool.or_false, Bool.false_or, Bool.or_true, Bool.true_or, Bool.and_true, Bool.true_and, Bool.and_false, Bool.false_and, beq_self_eq_true, bne_self_eq_false, M.kCe, M.kCt, M.kForT_nx, M.kForT_ct, M.kForT_bk, M.kForT_rt, M.cut_1, M.all_1, M.all_2, M.any_1, M.any_2, M.sum_1, M.sum_2, M.all_map, M.any_map, M.sum_map, M.ok_eJs, M.ok_jsN, M.ok_jsC, M.kJs, e2, e1, e1', s1, s2, List.length_map, c3]
        refine Ok.of (comp_f (ltD (v + tw r)) id fun d hd => ?_) ?_
        · obtain ⟨n, _, rfl⟩ := List.mem_map.mp hd
          unfold ltD
          simp only [M.ok_ok, M.ok_no, M.oko_some, M.ok_eC, M.ok_eV0, M.ok_eVs, M.ok_e1, M.k1, M.ok_e2, M.k2a, M.k2, M.ok_evs0, M.ok_evs, M.kA, M.ok_eTup, M.ok_eLst, M.ok_eB, M.ok_eCall, M.kTup, M.kLst, M.kB, M.kCall, M.ok_eIf, M.kIfE, M.ok_eAnd, M.kAnd, M.ok_eOr, M.kOr, M.ok_eNot, M.kNotE, M.ok_eChain, M.kCh, M.kCh2, M.ok_tOfE, M.kTo, M.ok_tTru, M.kTru, M.ok_tAnd, M.ok_tOr, M.ok_tNot, M.kTAnd, M.kTOr, M.kTNot, M.ok_tYes, M.ok_pNo, M.ok_pSome, M.kPs, M.ok_eCut, M.kCut, M.kCut1, M.kCut2, M.ok_eDGet, M.kDg, M.kDg2, M.ok_sSeq, M.kSeq_nx, M.kSeq_rt, M.kSeq_bk, M.kSeq_ct, M.ok_sSet, M.kSet, M.ok_sAsg, M.kAsg, M.ok_sPar, M.kPar, M.ok_sDrop, M.kDrop, M.ok_sRet, M.kRet, M.ok_sRetN, M.ok_sNext, M.ok_sBrk, M.ok_sCnt, M.ok_sIf, M.kIf, M.kAug, M.kApp, M.ok_sFor, M.kFor, M.ok_fnM, M.kFn_rt, M.kFn_nx, M.ok_iS, M.kIS_lst, M.kIS_tup, M.ok_iR1, M.kR1, M.ok_iR2, M.kR2, M.ok_eLstRg, M.ok_eTupRg, M.kRg, M.ok_rg1, M.kRg1, M.ok_rg2, M.kRg2, M.kRg2b, M.ok_eM1, M.kM1, M.kM1b, M.ok_eComp, M.kComp, M.kComp1, M.ok_eComp2, M.kCompC, M.kCompB, M.ok_eDisp, M.kDisp, M.ok_sAug1, M.ok_sApp1, M.kApp1, M.kIt_nx, M.kIt_ct, M.kIt_bk, M.kIt_rt, M.v_sub, M.v_addI, M.v_addA, M.v_subA, M.v_lt, M.v_le, M.v_gt, M.v_ge, M.v_int, M.v_lenL, M.v_lenT, M.v_lenZ, M.v_abs, M.v_max, M.v_min, M.v_neg, M.v_ixL, M.v_ixT, M.v_ixZ, M.v_cutL, M.v_cutT, M.v_tupL, M.v_tupT, M.v_lstL, M.v_lstT, M.tr_bl, M.tr_int, M.tr_lst, M.tr_tup, M.tr_non, M.env0_go, M.g_N, M.g_T, M.g_sC, M.g_sN, M.wipe0, M.wipeS, M.ge_0, M.ge_S, List.set_cons_zero, List.set_cons_succ, List.map_cons, List.map_nil, List.cons_append, List.nil_append, List.length_cons, List.length_nil, Nat.reduceAdd, Nat.reduceSub, List.replicate_succ, List.replicate_zero, Option.bind_some, String.reduceBEq, Int.reduceBEq, Bool.or_self, if_true, if_false, Bool.false_eq_true, Bool.not_true, Bool.not_false, true_and, and_true, decide_true, decide_false, Option.map_some, M.is_non_int, M.is_non_bool, M.is_non_str, M.is_non_tuple, M.is_non_list, M.is_non_dict, M.is_bl_int, M.is_bl_bool, M.is_bl_str, M.is_bl_tuple, M.is_bl_list, M.is_bl_dict, M.is_int_int, M.is_int_bool, M.is_int_str, M.is_int_tuple, M.is_int_list, M.is_int_dict, M.is_str_int, M.is_str_bool, M.is_str_str, M.is_str_tuple, M.is_str_list, M.is_str_dict, M.is_tup_int, M.is_tup_bool, M.is_tup_str, M.is_tup_tuple, M.is_tup_list, M.is_tup_dict, M.is_lst_int, M.is_lst_bool, M.is_lst_str, M.is_lst_tuple, M.is_lst_list, M.is_lst_dict, M.isn_non, M.isn_bl, M.isn_int, M.isn_str, M.isn_tup, M.isn_lst, M.str_beq, M.f_non, M.f_bl, M.f_int, M.f_str, M.fe_str, M.fe_int, M.fe_si, M.fe_is, M.in_tup, M.in_lst, M.nin_tup, M.nin_lst, M.at_0, M.at_1, M.at_2, M.at_3, M.eq_int, M.ne_int, M.eq_bl, M.eq_nil, M.eq_str, M.ne_str, List.all_cons, List.all_nil, List.any_cons, List.any_nil, Bool.and_self, Bool.or_false, Bool.false_or, Bool.or_true, Bool.true_or, Bool.and_true, Bool.true_and, Bool.and_false, Bool.false_and, beq_self_eq_true, bne_self_eq_false, M.kCe, M.kCt, M.kForT_nx, M.kForT_ct, M.kForT_bk, M.kForT_rt, M.cut_1, M.all_1, M.all_2, M.any_1, M.any_2, M.sum_1, M.sum_2, M.all_map, M.any_map, M.sum_map, M.ok_eJs, M.ok_jsN, M.ok_jsC, M.kJs]
          simp
        rw [lo_map]
        simp only [M.ok_ok, M.ok_no, M.oko_some, M.ok_eC, M.ok_eV0, M.ok_eVs, M.ok_e1, M.k1, M.ok_e2, M.k2a, M.k2, M.ok_evs0, M.ok_evs, M.kA, M.ok_eTup, M.ok_eLst, M.ok_eB, M.ok_eCall, M.kTup, M.kLst, M.kB, M.kCall, M.ok_eIf, M.kIfE, M.ok_eAnd, M.kAnd, M.ok_eOr, M.kOr, M.ok_eNot, M.kNotE, M.ok_eChain, M.kCh, M.kCh2, M.ok_tOfE, M.kTo, M.ok_tTru, M.kTru, M.ok_tAnd, M.ok_tOr, M.ok_tNot, M.kTAnd, M.kTOr, M.kTNot, M.ok_tYes, M.ok_pNo, M.ok_pSome, M.kPs, M.ok_eCut, M.kCut, M.kCut1, M.kCut2, M.ok_eDGet, M.kDg, M.kDg2, M.ok_sSeq, M.kSeq_nx, M.kSeq_rt, M.kSeq_bk, M.kSeq_ct, M.ok_sSet, M.kSet, M.ok_sAsg, M.kAsg, M.ok_sPar, M.kPar, M.ok_sDrop, M.kDrop, M.ok_sRet, M.kRet, M.ok_sRetN, M.ok_sNext, M.ok_sBrk, M.ok_sCnt, M.ok_sIf, M.kIf, M.kAug, M.kApp, M.ok_sFor, M.kFor, M.ok_fnM, M.kFn_rt, M.kFn_nx, M.ok_iS, M.kIS_lst, M.kIS_tup, M.ok_iR1, M.kR1, M.ok_iR2, M.kR2, M.ok_eLstRg, M.ok_eTupRg, M.kRg, M.ok_rg1, M.kRg1, M.ok_rg2, M.kRg2, M.kRg2b, M.ok_eM1, M.kM1, M.kM1b, M.ok_eComp, M.kComp, M.kComp1, M.ok_eComp2, M.kCompC, M.kCompB, M.ok_eDisp, M.kDisp, M.ok_sAug1, M.ok_sApp1, M.kApp1, M.kIt_nx, M.kIt_ct, M.kIt_bk, M.kIt_rt, M.v_sub, M.v_addI, M.v_addA, M.v_subA, M.v_lt, M.v_le, M.v_gt, M.v_ge, M.v_int, M.v_lenL, M.v_lenT, M.v_lenZ, M.v_abs, M.v_max, M.v_min, M.v_neg, M.v_ixL, M.v_ixT, M.v_ixZ, M.v_cutL, M.v_cutT, M.v_tupL, M.v_tupT, M.v_lstL, M.v_lstT, M.tr_bl, M.tr_int, M.tr_lst, M.tr_tup, M.tr_non, M.env0_go, M.g_N, M.g_T, M.g_sC, M.g_sN, M.wipe0, M.wipeS, M.ge_0, M.ge_S, List.set_cons_zero, List.set_cons_succ, List.map_cons, List.map_nil, List.cons_append, List.nil_append, List.length_cons, List.length_nil, Nat.reduceAdd, Nat.reduceSub, List.replicate_succ, List.replicate_zero, Option.bind_some, String.reduceBEq, Int.reduceBEq, Bool.or_self, if_true, if_false, Bool.false_eq_true, Bool.not_true, Bool.not_false, true_and, and_true, decide_true, decide_false, Option.map_some, M.is_non_int, M.is_non_bool, M.is_non_str, M.is_non_tuple, M.is_non_list, M.is_non_dict, M.is_bl_int, M.is_bl_bool, M.is_bl_str, M.is_bl_tuple, M.is_bl_list, M.is_bl_dict, M.is_int_int, M.is_int_bool, M.is_int_str, M.is_int_tuple, M.is_int_list, M.is_int_dict, M.is_str_int, M.is_str_bool, M.is_str_str, M.is_str_tuple, M.is_str_list, M.is_str_dict, M.is_tup_int, M.is_tup_bool, M.is_tup_str, M.is_tup_tuple, M.is_tup_list, M.is_tup_dict, M.is_lst_int, M.is_lst_bool, M.is_lst_str, M.is_lst_tuple, M.is_lst_list, M.is_lst_dict, M.isn_non, M.isn_bl, M.isn_int, M.isn_str, M.isn_tup, M.isn_lst, M.str_beq, M.f_non, M.f_bl, M.f_int, M.f_str, M.fe_str, M.fe_int, M.fe_si, M.fe_is, M.in_tup, M.in_lst, M.nin_tup, M.nin_lst, M.at_0, M.at_1, M.at_2, M.at_3, M.eq_int, M.ne_int, M.eq_bl, M.eq_nil, M.eq_str, M.ne_str, List.all_cons, List.all_nil, List.any_cons, List.any_nil, Bool.and_self, Bool.or_false, Bool.false_or, Bool.or_true, Bool.true_or, Bool.and_true, Bool.true_and, Bool.and_false, Bool.false_and, beq_self_eq_true, bne_self_eq_false, M.kCe, M.kCt, M.kForT_nx, M.kForT_ct, M.kForT_bk, M.kForT_rt, M.cut_1, M.all_1, M.all_2, M.any_1, M.any_2, M.sum_1, M.sum_2, M.all_map, M.any_map, M.sum_map, M.ok_eJs, M.ok_jsN, M.ok_jsC, M.kJs, e4, i1]
        refine Ok.of (comp_f (geD (v + tw r)) id fun d hd => ?_) ?_
        · obtain ⟨n, _, rfl⟩ := List.mem_map.mp hd
          unfold geD
          simp only [M.ok_ok, M.ok_no, M.oko_some, M.ok_eC, M.ok_eV0, M.ok_eVs, M.ok_e1, M.k1, M.ok_e2, M.k2a, M.k2, M.ok_evs0, M.ok_evs, M.kA, M.ok_eTup, M.ok_eLst, M.ok_eB, M.ok_eCall, M.kTup, M.kLst, M.kB, M.kCall, M.ok_eIf, M.kIfE, M.ok_eAnd, M.kAnd, M.ok_eOr, M.kOr, M.ok_eNot, M.kNotE, M.ok_eChain, M.kCh, M.kCh2, M.ok_tOfE, M.kTo, M.ok_tTru, M.kTru, M.ok_tAnd, M.ok_tOr, M.ok_tNot, M.kTAnd, M.kTOr, M.kTNot, M.ok_tYes, M.ok_pNo, M.ok_pSome, M.kPs, M.ok_eCut, M.kCut, M.kCut1, M.kCut2, M.ok_eDGet, M.kDg, M.kDg2, M.ok_sSeq, M.kSeq_nx, M.kSeq_rt, M.kSeq_bk, M.kSeq_ct, M.ok_sSet, M.kSet, M.ok_sAsg, M.kAsg, M.ok_sPar, M.kPar, M.ok_sDrop, M.kDrop, M.ok_sRet, M.kRet, M.ok_sRetN, M.ok_sNext, M.ok_sBrk, M.ok_sCnt, M.ok_sIf, M.kIf, M.kAug, M.kApp, M.ok_sFor, M.kFor, M.ok_fnM, M.kFn_rt, M.kFn_nx, M.ok_iS, M.kIS_lst, M.kIS_tup, M.ok_iR1, M.kR1, M.ok_iR2, M.kR2, M.ok_eLstRg, M.ok_eTupRg, M.kRg, M.ok_rg1, M.kRg1, M.ok_rg2, M.kRg2, M.kRg2b, M.ok_eM1, M.kM1, M.kM1b, M.ok_eComp, M.kComp, M.kComp1, M.ok_eComp2, M.kCompC, M.kCompB, M.ok_eDisp, M.kDisp, M.ok_sAug1, M.ok_sApp1, M.kApp1, M.kIt_nx, M.kIt_ct, M.kIt_bk, M.kIt_rt, M.v_sub, M.v_addI, M.v_addA, M.v_subA, M.v_lt, M.v_le, M.v_gt, M.v_ge, M.v_int, M.v_lenL, M.v_lenT, M.v_lenZ, M.v_abs, M.v_max, M.v_min, M.v_neg, M.v_ixL, M.v_ixT, M.v_ixZ, M.v_cutL, M.v_cutT, M.v_tupL, M.v_tupT, M.v_lstL, M.v_lstT, M.tr_bl, M.tr_int, M.tr_lst, M.tr_tup, M.tr_non, M.env0_go, M.g_N, M.g_T, M.g_sC, M.g_sN, M.wipe0, M.wipeS, M.ge_0, M.ge_S, List.set_cons_zero, List.set_cons_succ, List.map_cons, List.map_nil, List.cons_append, List.nil_append, List.length_cons, List.length_nil, Nat.reduceAdd, Nat.reduceSub, List.replicate_succ, List.replicate_zero, Option.bind_some, String.reduceBEq, Int.reduceBEq, Bool.or_self, if_true, if_false, Bool.false_eq_true, Bool.not_true, Bool.not_false, true_and, and_true, decide_true, decide_false, Option.map_some, M.is_non_int, M.is_non_bool, M.is_non_str, M.is_non_tuple, M.is_non_list, M.is_non_dict, M.is_bl_int, M.is_bl_bool, M.is_bl_str, M.is_bl_tuple, M.is_bl_list, M.is_bl_dict, M.is_int_int, M.is_int_bool, M.is_int_str, M.is_int_tuple, M.is_int_list, M.is_int_dict, M.is_str_int, M.is_str_bool, M.is_str_str, M.is_str_tuple, M.is_str_list, M.is_str_dict, M.is_tup_int, M.is_tup_bool, M.is_tup_str, M.is_tup_tuple, M.is_tup_list, M.is_tup_dict, M.is_lst_int, M.is_lst_bool, M.is_lst_str, M.is_lst_tuple, M.is_lst_list, M.is_lst_dict, M.isn_non, M.isn_bl, M.isn_int, M.isn_str, M.isn_tup, M.isn_lst, M.str_beq, M.f_non, M.f_bl, M.f_int, M.f_str, M.fe_str, M.fe_int, M.fe_si, M.fe_is, M.in_tup, M.in_lst, M.nin_tup, M.nin_lst, M.at_0, M.at_1, M.at_2, M.at_3, M.eq_int, M.ne_int, M.eq_bl, M.eq_nil, M.eq_str, M.ne_str, List.all_cons, List.all_nil, List.any_cons, List.any_nil, Bool.and_self, Bool.or_false, Bool.false_or, Bool.or_true, Bool.true_or, Bool.and_true, Bool.true_and, Bool.and_false, Bool.false_and, beq_self_eq_true, bne_self_eq_false, M.kCe, M.kCt, M.kForT_nx, M.kForT_ct, M.kForT_bk, M.kForT_rt, M.cut_1, M.all_1, M.all_2, M.any_1, M.any_2, M.sum_1, M.sum_2, M.all_map, M.any_map, M.sum_map, M.ok_eJs, M.ok_jsN, M.ok_jsC, M.kJs]
          simp
        rw [hi_map]
        have l1 := pf_len r (lo (v + tw r) ns) v (l + 1)
        have l2 := pf_len r (hi (v + tw r) ns) (v + tw r) (l + 1)
        have l3 := part_len (v + tw r) ns
        simp only [M.ok_ok, M.ok_no, M.oko_some, M.ok_eC, M.ok_eV0, M.ok_eVs, M.ok_e1, M.k1, M.ok_e2, M.k2a, M.k2, M.ok_evs0, M.ok_evs, M.kA, M.ok_eTup, M.ok_eLst, M.ok_eB, M.ok_eCall, M.kTup, M.kLst, M.kB, M.kCall, M.ok_eIf, M.kIfE, M.ok_eAnd, M.kAnd, M.ok_eOr, M.kOr, M.ok_eNot, M.kNotE, M.ok_eChain, M.kCh, M.kCh2, M.ok_tOfE, M.kTo, M.ok_tTru, M.kTru, M.ok_tAnd, M.ok_tOr, M.ok_tNot, M.kTAnd, M.kTOr, M.kTNot, M.ok_tYes, M.ok_pNo, M.ok_pSome, M.kPs, M.ok_eCut, M.kCut, M.kCut1, M.kCut2, M.ok_eDGet, M.kDg, M.kDg2, M.ok_sSeq, M.kSeq_nx, M.kSeq_rt, M.kSeq_bk, M.kSeq_ct, M.ok_sSet, M.kSet, M.ok_sAsg, M.kAsg, M.ok_sPar, M.kPar, M.ok_sDrop, M.kDrop, M.ok_sRet, M.kRet, M.ok_sRetN, M.ok_sNext, M.ok_sBrk, M.ok_sCnt, M.ok_sIf, M.kIf, M.kAug, M.kApp, M.ok_sFor, M.kFor, M.ok_fnM, M.kFn_rt, M.kFn_nx, M.ok_iS, M.kIS_lst, M.kIS_tup, M.ok_iR1, M.kR1, M.ok_iR2, M.kR2, M.ok_eLstRg, M.ok_eTupRg, M.kRg, M.ok_rg1, M.kRg1, M.ok_rg2, M.kRg2, M.kRg2b, M.ok_eM1, M.kM1, M.kM1b, M.ok_eComp, M.kComp, M.kComp1, M.ok_eComp2, M.kCompC, M.kCompB, M.ok_eDisp, M.kDisp, M.ok_sAug1, M.ok_sApp1, M.kApp1, M.kIt_nx, M.kIt_ct, M.kIt_bk, M.kIt_rt, M.v_sub, M.v_addI, M.v_addA, M.v_subA, M.v_lt, M.v_le, M.v_gt, M.v_ge, M.v_int, M.v_lenL, M.v_lenT, M.v_lenZ, M.v_abs, M.v_max, M.v_min, M.v_neg, M.v_ixL, M.v_ixT, M.v_ixZ, M.v_cutL, M.v_cutT, M.v_tupL, M.v_tupT, M.v_lstL, M.v_lstT, M.tr_bl, M.tr_int, M.tr_lst, M.tr_tup, M.tr_non, M.env0_go, M.g_N, M.g_T, M.g_sC, M.g_sN, M.wipe0, M.wipeS, M.ge_0, M.ge_S, List.set_cons_zero, List.set_cons_succ, List.map_cons, List.map_nil, List.cons_append, List.nil_append, List.length_cons, List.length_nil, Nat.reduceAdd, Nat.reduceSub, List.replicate_succ, List.replicate_zero, Option.bind_some, String.reduceBEq, Int.reduceBEq, Bool.or_self, if_true, if_false, Bool.false_eq_true, Bool.not_true, Bool.not_false, true_and, and_true, decide_true, decide_false, Option.map_some, M.is_non_int, M.is_non_bool, M.is_non_str, M.is_non_tuple, M.is_non_list, M.is_non_dict, M.is_bl_int, M.is_bl_bool, M.is_bl_str, M.is_bl_tuple, M.is_bl_list, M.is_bl_dict, M.is_int_int, M.is_int_bool, M.is_int_str, M.is_int_tuple, M.is_int_list, M.is_int_dict, M.is_str_int, M.is_str_bool, M.is_str_str, M.is_str_tuple, M.is_str_list, M.is_str_dict, M.is_tup_int, M.is_tup_bool, M.is_tup_str, M.is_tup_tuple, M.is_tup_list, M.is_tup_dict, M.is_lst_int, M.is_lst_bool, M.is_lst_str, M.is_lst_tuple, M.is_lst_list, M.is_lst_dict, M.isn_non, M.isn_bl, M.isn_int, M.isn_str, M.isn_tup, M.isn_lst, M.str_beq, M.f_non, M.f_bl, M.f_int, M.f_str, M.fe_str, M.fe_int, M.fe_si, M.fe_is, M.in_tup, M.in_lst, M.nin_tup, M.nin_lst, M.at_0, M.at_1, M.at_2, M.at_3, M.eq_int, M.ne_int, M.eq_bl, M.eq_nil, M.eq_str, M.ne_str, List.all_cons, List.all_nil, List.any_cons, List.any_nil, Bool.and_self, Bool.or_false, Bool.false_or, Bool.or_true, Bool.true_or, Bool.and_true, Bool.true_and, Bool.and_false, Bool.false_and, beq_self_eq_true, bne_self_eq_false, M.kCe, M.kCt, M.kForT_nx, M.kForT_ct, M.kForT_bk, M.kForT_rt, M.cut_1, M.all_1, M.all_2, M.any_1, M.any_2, M.sum_1, M.sum_2, M.all_map, M.any_map, M.sum_map, M.ok_eJs, M.ok_jsN, M.ok_jsC, M.kJs, e4, i2, v_addL (show ((pf r (lo (v + tw r) ns) v (l + 1)).map p2).length + ((pf r (hi (v + tw r) ns) (v + tw r) (l + 1)).map p2).length ≤ sizeLine by rw [List.length_map, List.length_map]; omega)]
        rw [if_neg c2, List.map_append]

theorem cnt_ok {r l b : Nat} {v : Int} {x : D} {o4 o5 o7 o8 : Option D} {s : Sto} (hb : b = l + r) (hb2 : b ≤ 12) :
    Ok (forD (gN 7) (sIf (tOfE (e2 oLt (e2 oShl (e2 oSub (eV 1) (eV 0)) (eV 7)) (e2 oShl (eC (.int 1)) (eV 3)))) (sAug 6 oAddI (eC (.int 1))) sNext) (rngD 0 b) [some (.int v), some (.int (v + tw r)), some x, some (.int b), o4, o5, some (.int 0), o7, o8] s)
      fun o s2 => s2 = s ∧ ∃ p7, o = .nx [some (.int v), some (.int (v + tw r)), some x, some (.int b), o4, o5, some (.int l), p7, o8] := by
  refine for_rng (fun i ρ s2 => s2 = s ∧ ∃ p7, ρ = [some (.int v), some (.int (v + tw r)), some x, some (.int b), o4, o5, some (.int ((min i l : Nat) : Int)), p7, o8]) ⟨rfl, _, by simp only [Nat.zero_min]; rfl⟩ ?_ ?_
  · rintro i ρ s2 hi ⟨rfl, p7, rfl⟩
    have e0 : (0 : Int) + (i : Nat) = (i : Nat) := by omega
    have e1 : v + tw r - v = tw r := by omega
    have p0 := tw_pos r
    have p1 := tw_le (r := r) (by omega)
    have s1 := v_shl (i := tw r) (j := ((i : Nat) : Int)) (by omega) (by omega) (by omega) (by omega)
    have s2 := v_shl (i := 1) (j := ((b : Nat) : Int)) (by decide) (by decide) (by omega) (by omega)
    rw [Int.toNat_natCast] at s1 s2
    have key := tw_lt r i l
    rw [← hb] at key
    by_cases c : i < l
    · have c' := key.mpr c
      simp only [M.ok_ok, M.ok_no, M.oko_some, M.ok_eC, M.ok_eV0, M.ok_eVs, M.ok_e1, M.k1, M.ok_e2, M.k2a, M.k2, M.ok_evs0, M.ok_evs, M.kA, M.ok_eTup, M.ok_eLst, M.ok_eB, M.ok_eCall, M.kTup, M.kLst, M.kB, M.kCall, M.ok_eIf, M.kIfE, M.ok_eAnd, M.kAnd, M.ok_eOr, M.kOr, M.ok_eNot, M.kNotE, M.ok_eChain, M.kCh, M.kCh2, M.ok_tOfE, M.kTo, M.ok_tTru, M.kTru, M.ok_tAnd, M.ok_tOr, M.ok_tNot, M.kTAnd, M.kTOr, M.kTNot, M.ok_tYes, M.ok_pNo, M.ok_pSome, M.kPs, M.ok_eCut, M.kCut, M.kCut1, M.kCut2, M.ok_eDGet, M.kDg, M.kDg2, M.ok_sSeq, M.kSeq_nx, M.kSeq_rt, M.kSeq_bk, M.kSeq_ct, M.ok_sSet, M.kSet, M.ok_sAsg, M.kAsg, M.ok_sPar, M.kPar, M.ok_sDrop, M.kDrop, M.ok_sRet, M.kRet, M.ok_sRetN, M.ok_sNext, M.ok_sBrk, M.ok_sCnt, M.ok_sIf, M.kIf, M.kAug, M.kApp, M.ok_sFor, M.kFor, M.ok_fnM, M.kFn_rt, M.kFn_nx, M.ok_iS, M.kIS_lst, M.kIS_tup, M.ok_iR1, M.kR1, M.ok_iR2, M.kR2, M.ok_eLstRg, M.ok_eTupRg, M.kRg, M.ok_rg1, M.kRg1, M.ok_rg2, M.kRg2, M.kRg2b, M.ok_eM1, M.kM1, M.kM1b, M.ok_eComp, M.kComp, M.kComp1, M.ok_eComp2, M.kCompC, M.kCompB, M.ok_eDisp, M.kDisp, M.ok_sAug1, M.ok_sApp1, M.kApp1, M.kIt_nx, M.kIt_ct, M.kIt_bk, M.kIt_rt, M.v_sub, M.v_addI, M.v_addA, M.v_subA, M.v_lt, M.v_le, M.v_gt, M.v_ge, M.v_int, M.v_lenL, M.v_lenT, M.v_lenZ, M.v_abs, M.v_max, M.v_min, M.v_neg, M.v_ixL, M.v_ixT, M.v_ixZ, M.v_cutL, M.v_cutT, M.v_tupL, M.v_tupT, M.v_lstL, M.v_lstT, M.tr_bl, M.tr_int, M.tr_lst, M.tr_tup, M.tr_non, M.env0_go, M.g_N, M.g_T, M.g_sC, M.g_sN, M.wipe0, M.wipeS, M.ge_0, M.ge_S, List.set_cons_zero, List.set_cons_succ, List.map_cons, List.map_nil, List.cons_append, List.nil_append, List.length_cons, List.length_nil, Nat.reduceAdd, Nat.reduceSub, List.replicate_succ, List.replicate_zero, Option.bind_some, String.reduceBEq, Int.reduceBEq, Bool.or_self, if_true, if_false, Bool.false_eq_true, Bool.not_true, Bool.not_false, true_and, and_true, decide_true, decide_false, Option.map_some, M.is_non_int, M.is_non_bool, M.is_non_str, M.is_non_tuple, M.is_non_list, M.is_non_dict, M.is_bl_int, M.is_bl_bool, M.is_bl_str, M.is_bl_tuple, M.is_bl_list, M.is_bl_dict, M.is_int_int, M.is_int_bool, M.is_int_str, M.is_int_tuple, M.is_int_list, M.is_int_dict, M.is_str_int, M.is_str_bool, M.is_str_str, M.is_str_tuple, M.is_str_list, M.is_str_dict, M.is_tup_int, M.is_tup_bool, M.is_tup_str, M.is_tup_tuple, M.is_tup_list, M.is_tup_dict, M.is_lst_int, M.is_lst_bool, M.is_lst_str, M.is_lst_tuple, M.is_lst_list, M.is_lst_dict, M.isn_non, M.isn_bl, M.isn_int, M.isn_str, M.isn_tup, M.isn_lst, M.str_beq, M.f_non, M.f_bl, M.f_int, M.f_str, M.fe_str, M.fe_int, M.fe_si, M.fe_is, M.in_tup, M.in_lst, M.nin_tup, M.nin_lst, M.at_0, M.at_1, M.at_2, M.at_3, M.eq_int, M.ne_int, M.eq_bl, M.eq_nil, M.eq_str, M.ne_str, List.all_cons, List.all_nil, List.any_cons, List.any_nil, Bool.and_self, Bool.or_false, Bool.false_or, Bool.or_true, Bool.true_or, Bool.and_true, Bool.true_and, Bool.and_false, Bool.false_and, beq_self_eq_true, bne_self_eq_false, M.kCe, M.kCt, M.kForT_nx, M.kForT_ct, M.kForT_bk, M.kForT_rt, M.cut_1, M.all_1, M.all_2, M.any_1, M.any_2, M.sum_1, M.sum_2, M.all_map, M.any_map, M.sum_map, M.ok_eJs, M.ok_jsN, M.ok_jsC, M.kJs, e0, e1, s1, s2, c']
      rw [show ((min i l : Nat) : Int) + 1 = ((min (i + 1) l : Nat) : Int) by omega]
      exact ⟨_, rfl⟩
    · have c' : ¬ tw r * 2 ^ i < 1 * 2 ^ b := fun h => c (key.mp h)
      simp only [M.ok_ok, M.ok_no, M.oko_some, M.ok_eC, M.ok_eV0, M.ok_eVs, M.ok_e1, M.k1, M.ok_e2, M.k2a, M.k2, M.ok_evs0, M.ok_evs, M.kA, M.ok_eTup, M.ok_eLst, M.ok_eB, M.ok_eCall, M.kTup, M.kLst, M.kB, M.kCall, M.ok_eIf, M.kIfE, M.ok_eAnd, M.kAnd, M.ok_eOr, M.kOr, M.ok_eNot, M.kNotE, M.ok_eChain, M.kCh, M.kCh2, M.ok_tOfE, M.kTo, M.ok_tTru, M.kTru, M.ok_tAnd, M.ok_tOr, M.ok_tNot, M.kTAnd, M.kTOr, M.kTNot, M.ok_tYes, M.ok_pNo, M.ok_pSome, M.kPs, M.ok_eCut, M.kCut, M.kCut1, M.kCut2, M.ok_eDGet, M.kDg, M.kDg2, M.ok_sSeq, M.kSeq_nx, M.kSeq_rt, M.kSeq_bk, M.kSeq_ct, M.ok_sSet, M.kSet, M.ok_sAsg, M.kAsg, M.ok_sPar, M.kPar, M.ok_sDrop, M.kDrop, M.ok_sRet, M.kRet, M.ok_sRetN, M.ok_sNext, M.ok_sBrk, M.ok_sCnt, M.ok_sIf, M.kIf, M.kAug, M.kApp, M.ok_sFor, M.kFor, M.ok_fnM, M.kFn_rt, M.kFn_nx, M.ok_iS, M.kIS_lst, M.kIS_tup, M.ok_iR1, M.kR1, M.ok_iR2, M.kR2, M.ok_eLstRg, M.ok_eTupRg, M.kRg, M.ok_rg1, M.kRg1, M.ok_rg2, M.kRg2, M.kRg2b, M.ok_eM1, M.kM1, M.kM1b, M.ok_eComp, M.kComp, M.kComp1, M.ok_eComp2, M.kCompC, M.kCompB, M.ok_eDisp, M.kDisp, M.ok_sAug1, M.ok_sApp1, M.kApp1, M.kIt_nx, M.kIt_ct, M.kIt_bk, M.kIt_rt, M.v_sub, M.v_addI, M.v_addA, M.v_subA, M.v_lt, M.v_le, M.v_gt, M.v_ge, M.v_int, M.v_lenL, M.v_lenT, M.v_lenZ, M.v_abs, M.v_max, M.v_min, M.v_neg, M.v_ixL, M.v_ixT, M.v_ixZ, M.v_cutL, M.v_cutT, M.v_tupL, M.v_tupT, M.v_lstL, M.v_lstT, M.tr_bl, M.tr_int, M.tr_lst, M.tr_tup, M.tr_non, M.env0_go, M.g_N, M.g_T, M.g_sC, M.g_sN, M.wipe0, M.wipeS, M.ge_0, M.ge_S, List.set_cons_zero, List.set_cons_succ, List.map_cons, List.map_nil, List.cons_append, List.nil_append, List.length_cons, List.length_nil, Nat.reduceAdd, Nat.reduceSub, List.replicate_succ, List.replicate_zero, Option.bind_some, String.reduceBEq, Int.reduceBEq, Bool.or_self, if_true, if_false, Bool.false_eq_true, Bool.not_true, Bool.not_false, true_and, and_true, decide_true, decide_false, Option.map_some, M.is_non_int, M.is_non_bool, M.is_non_str, M.is_non_tuple, M.is_non_list, M.is_non_dict, M.is_bl_int, M.is_bl_bool, M.is_bl_str, M.is_bl_tuple, M.is_bl_list, M.is_bl_dict, M.is_int_int, M.is_int_bool, M.is_int_str, M.is_int_tuple, M.is_int_list, M.is_int_dict, M.is_str_int, M.is_str_bool, M.is_str_str, M.is_str_tuple, M.is_str_list, M.is_str_dict, M.is_tup_int, M.is_tup_bool, M.is_tup_str, M.is_tup_tuple, M.is_tup_list, M.is_tup_dict, M.is_lst_int, M.is_lst_bool, M.is_lst_str, M.is_lst_tuple, M.is_lst_list, M.is_lst_dict, M.isn_non, M.isn_bl, M.isn_int, M.isn_str, M.isn_tup, M.isn_lst, M.str_beq, M.f_non, M.f_bl, M.f_int, M.f_str, M.fe_str, M.fe_int, M.fe_si, M.fe_is, M.in_tup, M.in_lst, M.nin_tup, M.nin_lst, M.at_0, M.at_1, M.at_2, M.at_3, M.eq_int, M.ne_int, M.eq_bl, M.eq_nil, M.eq_str, M.ne_str, List.all_cons, List.all_nil, List.any_cons, List.any_nil, Bool.and_self, Bool.or_false, Bool.false_or, Bool.or_true, Bool.true_or, Bool.and_true, Bool.true_and, Bool.and_false, Bool.false_and, beq_self_eq_true, bne_self_eq_false, M.kCe, M.kCt, M.kForT_nx, M.kForT_ct, M.kForT_bk, M.kForT_rt, M.cut_1, M.all_1, M.all_2, M.any_1, M.any_2, M.sum_1, M.sum_2, M.all_map, M.any_map, M.sum_map, M.ok_eJs, M.ok_jsN, M.ok_jsC, M.kJs, e0, e1, s1, s2, c']
      rw [show ((min i l : Nat) : Int) = ((min (i + 1) l : Nat) : Int) by omega]
      exact ⟨_, rfl⟩
  · rintro ρ s2 ⟨rfl, p7, rfl⟩
    exact ⟨rfl, p7, by rw [show min b l = l by omega]⟩
theorem gr_of : ∀ (r k : Nat) (ns : List Int) (v : Int) (l b : Nat) (s : Sto), r < k → Gd ns v r → b = l + r → b ≤ 12 → ns.length ≤ 4096 → 0 ≤ v → v + tw r ≤ 2 ^ 20 → G W k 7 [.int v, .int (v + tw r), .lst (ns.map .int), .int b] s = .ok (.lst ((pf r ns v l).map p2)) s := by
  intro r
  induction r with
  | zero =>
    intro k ns v l b s hk hg hb hb2 hl v1 v2
    obtain ⟨k, rfl⟩ : ∃ j, k = j + 1 := ⟨k - 1, by omega⟩
    show fnM 9 (m__law_greatest W (G W k)) _ _ = _
    apply Ok.eq
    unfold m__law_greatest pf
    have en : oEq (.lst (ns.map .int)) (.lst []) = some (.bl (decide (ns = []))) := Enc.eq (Enc.lst Enc.int) (by decide) ns []
    by_cases c : ns = []
    · subst c
      simp only [M.ok_ok, M.ok_no, M.oko_some, M.ok_eC, M.ok_eV0, M.ok_eVs, M.ok_e1, M.k1, M.ok_e2, M.k2a, M.k2, M.ok_evs0, M.ok_evs, M.kA, M.ok_eTup, M.ok_eLst, M.ok_eB, M.ok_eCall, M.kTup, M.kLst, M.kB, M.kCall, M.ok_eIf, M.kIfE, M.ok_eAnd, M.kAnd, M.ok_eOr, M.kOr, M.ok_eNot, M.kNotE, M.ok_eChain, M.kCh, M.kCh2, M.ok_tOfE, M.kTo, M.ok_tTru, M.kTru, M.ok_tAnd, M.ok_tOr, M.ok_tNot, M.kTAnd, M.kTOr, M.kTNot, M.ok_tYes, M.ok_pNo, M.ok_pSome, M.kPs, M.ok_eCut, M.kCut, M.kCut1, M.kCut2, M.ok_eDGet, M.kDg, M.kDg2, M.ok_sSeq, M.kSeq_nx, M.kSeq_rt, M.kSeq_bk, M.kSeq_ct, M.ok_sSet, M.kSet, M.ok_sAsg, M.kAsg, M.ok_sPar, M.kPar, M.ok_sDrop, M.kDrop, M.ok_sRet, M.kRet, M.ok_sRetN, M.ok_sNext, M.ok_sBrk, M.ok_sCnt, M.ok_sIf, M.kIf, M.kAug, M.kApp, M.ok_sFor, M.kFor, M.ok_fnM, M.kFn_rt, M.kFn_nx, M.ok_iS, M.kIS_lst, M.kIS_tup, M.ok_iR1, M.kR1, M.ok_iR2, M.kR2, M.ok_eLstRg, M.ok_eTupRg, M.kRg, M.ok_rg1, M.kRg1, M.ok_rg2, M.kRg2, M.kRg2b, M.ok_eM1, M.kM1, M.kM1b, M.ok_eComp, M.kComp, M.kComp1, M.ok_eComp2, M.kCompC, M.kCompB, M.ok_eDisp, M.kDisp, M.ok_sAug1, M.ok_sApp1, M.kApp1, M.kIt_nx, M.kIt_ct, M.kIt_bk, M.kIt_rt, M.v_sub, M.v_addI, M.v_addA, M.v_subA, M.v_lt, M.v_le, M.v_gt, M.v_ge, M.v_int, M.v_lenL, M.v_lenT, M.v_lenZ, M.v_abs, M.v_max, M.v_min, M.v_neg, M.v_ixL, M.v_ixT, M.v_ixZ, M.v_cutL, M.v_cutT, M.v_tupL, M.v_tupT, M.v_lstL, M.v_lstT, M.tr_bl, M.tr_int, M.tr_lst, M.tr_tup, M.tr_non, M.env0_go, M.g_N, M.g_T, M.g_sC, M.g_sN, M.wipe0, M.wipeS, M.ge_0, M.ge_S, List.set_cons_zero, List.set_cons_succ, List.map_cons, List.map_nil, List.cons_append, List.nil_append, List.length_cons, List.length_nil, Nat.reduceAdd, Nat.reduceSub, List.replicate_succ, List.replicate_zero, Option.bind_some, String.reduceBEq, Int.reduceBEq, Bool.or_self, if_true, if_false, Bool.false_eq_true, Bool.not_true, Bool.not_false, true_and, and_true, decide_true, decide_false, Option.map_some, M.is_non_int, M.is_non_bool, M.is_non_str, M.is_non_tuple, M.is_non_list, M.is_non_dict, M.is_bl_int, M.is_bl_bool, M.is_bl_str, M.is_bl_tuple, M.is_bl_list, M.is_bl_dict, M.is_int_int, M.is_int_bool, M.is_int_str, M.is_int_tuple, M.is_int_list, M.is_int_dict, M.is_str_int, M.is_str_bool, M.is_str_str, M.is_str_tuple, M.is_str_list, M.is_str_dict, M.is_tup_int, M.is_tup_bool, M.is_tup_str, M.is_tup_tuple, M.is_tup_list, M.is_tup_dict, M.is_lst_int, M.is_lst_bool, M.is_lst_str, M.is_lst_tuple, M.is_lst_list, M.is_lst_dict, M.isn_non, M.isn_bl, M.isn_int, M.isn_str, M.isn_tup, M.isn_lst, M.str_beq, M.f_non, M.f_bl, M.f_int, M.f_str, M.fe_str, M.fe_int, M.fe_si, M.fe_is, M.in_tup, M.in_lst, M.nin_tup, M.nin_lst, M.at_0, M.at_1, M.at_2, M.at_3, M.eq_int, M.ne_int, M.eq_bl, M.eq_nil, M.eq_str, M.ne_str, List.all_cons, List.all_nil, List.any_cons, List.any_nil, Bool.and_self, Bool.or_false, Bool.false_or, Bool.or_true, Bool.true_or, Bool.and_true, Bool.true_and, Bool.and_false, Bool.false_and, beq_self_eq_true, bne_self_eq_false, M.kCe, M.kCt, M.kForT_nx, M.kForT_ct, M.kForT_bk, M.kForT_rt, M.cut_1, M.all_1, M.all_2, M.any_1, M.any_2, M.sum_1, M.sum_2, M.all_map, M.any_map, M.sum_map, M.ok_eJs, M.ok_jsN, M.ok_jsC, M.kJs]
    · have h1 := hg.one c
      have e1 : v + tw 0 - v = tw 0 := by omega
      have e3 : (((ns.length : Nat) : Int) == tw 0) = true := by rw [h1]; rfl
      rw [if_neg c]
      simp only [M.ok_ok, M.ok_no, M.oko_some, M.ok_eC, M.ok_eV0, M.ok_eVs, M.ok_e1, M.k1, M.ok_e2, M.k2a, M.k2, M.ok_evs0, M.ok_evs, M.kA, M.ok_eTup, M.ok_eLst, M.ok_eB, M.ok_eCall, M.kTup, M.kLst, M.kB, M.kCall, M.ok_eIf, M.kIfE, M.ok_eAnd, M.kAnd, M.ok_eOr, M.kOr, M.ok_eNot, M.kNotE, M.ok_eChain, M.kCh, M.kCh2, M.ok_tOfE, M.kTo, M.ok_tTru, M.kTru, M.ok_tAnd, M.ok_tOr, M.ok_tNot, M.kTAnd, M.kTOr, M.kTNot, M.ok_tYes, M.ok_pNo, M.ok_pSome, M.kPs, M.ok_eCut, M.kCut, M.kCut1, M.kCut2, M.ok_eDGet, M.kDg, M.kDg2, M.ok_sSeq, M.kSeq_nx, M.kSeq_rt, M.kSeq_bk, M.kSeq_ct, M.ok_sSet, M.kSet, M.ok_sAsg, M.kAsg, M.ok_sPar, M.kPar, M.ok_sDrop, M.kDrop, M.ok_sRet, M.kRet, M.ok_sRetN, M.ok_sNext, M.ok_sBrk, M.ok_sCnt, M.ok_sIf, M.kIf, M.kAug, M.kApp, M.ok_sFor, M.kFor, M.ok_fnM, M.kFn_rt, M.kFn_nx, M.ok_iS, M.kIS_lst, M.kIS_tup, M.ok_iR1, M.kR1, M.ok_iR2, M.kR2, M.ok_eLstRg, M.ok_eTupRg, M.kRg, M.ok_rg1, M.kRg1, M.ok_rg2, M.kRg2, M.kRg2b, M.ok_eM1, M.kM1, M.kM1b, M.ok_eComp, M.kComp, M.kComp1, M.ok_eComp2, M.kCompC, M.kCompB, M.ok_eDisp, M.kDisp, M.ok_sAug1, M.ok_sApp1, M.kApp1, M.kIt_nx, M.kIt_ct, M.kIt_bk, M.kIt_rt, M.v_sub, M.v_addI, M.v_addA, M.v_subA, M.v_lt, M.v_le, M.v_gt, M.v_ge, M.v_int, M.v_lenL, M.v_lenT, M.v_lenZ, M.v_abs, M.v_max, M.v_min, M.v_neg, M.v_ixL, M.v_ixT, M.v_ixZ, M.v_cutL, M.v_cutT, M.v_tupL, M.v_tupT, M.v_lstL, M.v_lstT, M.tr_bl, M.tr_int, M.tr_lst, M.tr_tup, M.tr_non, M.env0_go, M.g_N, M.g_T, M.g_sC, M.g_sN, M.wipe0, M.wipeS, M.ge_0, M.ge_S, List.set_cons_zero, List.set_cons_succ, List.map_cons, List.map_nil, List.cons_append, List.nil_append, List.length_cons, List.length_nil, Nat.reduceAdd, Nat.reduceSub, List.replicate_succ, List.replicate_zero, Option.bind_some, String.reduceBEq, Int.reduceBEq, Bool.or_self, if_true, if_false, Bool.false_eq_true, Bool.not_true, Bool.not_false, true_and, and_true, decide_true, decide_false, Option.map_some, M.is_non_int, M.is_non_bool, M.is_non_str, M.is_non_tuple, M.is_non_list, M.is_non_dict, M.is_bl_int, M.is_bl_bool, M.is_bl_str, M.is_bl_tuple, M.is_bl_list, M.is_bl_dict, M.is_int_int, M.is_int_bool, M.is_int_str, M.is_int_tuple, M.is_int_list, M.is_int_dict, M.is_str_int, M.is_str_bool, M.is_str_str, M.is_str_tuple, M.is_str_list, M.is_str_dict, M.is_tup_int, M.is_tup_bool, M.is_tup_str, M.is_tup_tuple, M.is_tup_list, M.is_tup_dict, M.is_lst_int, M.is_lst_bool, M.is_lst_str, M.is_lst_tuple, M.is_lst_list, M.is_lst_dict, M.isn_non, M.isn_bl, M.isn_int, M.isn_str, M.isn_tup, M.isn_lst, M.str_beq, M.f_non, M.f_bl, M.f_int, M.f_str, M.fe_str, M.fe_int, M.fe_si, M.fe_is, M.in_tup, M.in_lst, M.nin_tup, M.nin_lst, M.at_0, M.at_1, M.at_2, M.at_3, M.eq_int, M.ne_int, M.eq_bl, M.eq_nil, M.eq_str, M.ne_str, List.all_cons, List.all_nil, List.any_cons, List.any_nil, Bool.and_self, Bool.or_false, Bool.false_or, Bool.or_true, Bool.true_or, Bool.and_true, Bool.true_and, Bool.and_false, Bool.false_and, beq_self_eq_true, bne_self_eq_false, M.kCe, M.kCt, M.kForT_nx, M.kForT_ct, M.kForT_bk, M.kForT_rt, M.cut_1, M.all_1, M.all_2, M.any_1, M.any_2, M.sum_1, M.sum_2, M.all_map, M.any_map, M.sum_map, M.ok_eJs, M.ok_jsN, M.ok_jsC, M.kJs, en, c, e1, List.length_map, e3]
      refine ⟨by omega, ?_⟩
      rw [Int.toNat_natCast]
      refine Ok.mono (cnt_ok (r := 0) hb hb2) ?_
      rintro o s2 ⟨rfl, p7, rfl⟩
      simp only [M.ok_ok, M.ok_no, M.oko_some, M.ok_eC, M.ok_eV0, M.ok_eVs, M.ok_e1, M.k1, M.ok_e2, M.k2a, M.k2, M.ok_evs0, M.ok_evs, M.kA, M.ok_eTup, M.ok_eLst, M.ok_eB, M.ok_eCall, M.kTup, M.kLst, M.kB, M.kCall, M.ok_eIf, M.kIfE, M.ok_eAnd, M.kAnd, M.ok_eOr, M.kOr, M.ok_eNot, M.kNotE, M.ok_eChain, M.kCh, M.kCh2, M.ok_tOfE, M.kTo, M.ok_tTru, M.kTru, M.ok_tAnd, M.ok_tOr, M.ok_tNot, M.kTAnd, M.kTOr, M.kTNot, M.ok_tYes, M.ok_pNo, M.ok_pSome, M.kPs, M.ok_eCut, M.kCut, M.kCut1, M.kCut2, M.ok_eDGet, M.kDg, M.kDg2, M.ok_sSeq, M.kSeq_nx, M.kSeq_rt, M.kSeq_bk, M.kSeq_ct, M.ok_sSet, M.kSet, M.ok_sAsg, M.kAsg, M.ok_sPar, M.kPar, M.ok_sDrop, M.kDrop, M.ok_sRet, M.kRet, M.ok_sRetN, M.ok_sNext, M.ok_sBrk, M.ok_sCnt, M.ok_sIf, M.kIf, M.kAug, M.kApp, M.ok_sFor, M.kFor, M.ok_fnM, M.kFn_rt, M.kFn_nx, M.ok_iS, M.kIS_lst, M.kIS_tup, M.ok_iR1, M.kR1, M.ok_iR2, M.kR2, M.ok_eLstRg, M.ok_eTupRg, M.kRg, M.ok_rg1, M.kRg1, M.ok_rg2, M.kRg2, M.kRg2b, M.ok_eM1, M.kM1, M.kM1b, M.ok_eComp, M.kComp, M.kComp1, M.ok_eComp2, M.kCompC, M.kCompB, M.ok_eDisp, M.kDisp, M.ok_sAug1, M.ok_sApp1, M.kApp1, M.kIt_nx, M.kIt_ct, M.kIt_bk, M.kIt_rt, M.v_sub, M.v_addI, M.v_addA, M.v_subA, M.v_lt, M.v_le, M.v_gt, M.v_ge, M.v_int, M.v_lenL, M.v_lenT, M.v_lenZ, M.v_abs, M.v_max, M.v_min, M.v_neg, M.v_ixL, M.v_ixT, M.v_ixZ, M.v_cutL, M.v_cutT, M.v_tupL, M.v_tupT, M.v_lstL, M.v_lstT, M.tr_bl, M.tr_int, M.tr_lst, M.tr_tup, M.tr_non, M.env0_go, M.g_N, M.g_T, M.g_sC, M.g_sN, M.wipe0, M.wipeS, M.ge_0, M.ge_S, List.set_cons_zero, List.set_cons_succ, List.map_cons, List.map_nil, List.cons_append, List.nil_append, List.length_cons, List.length_nil, Nat.reduceAdd, Nat.reduceSub, List.replicate_succ, List.replicate_zero, Option.bind_some, String.reduceBEq, Int.reduceBEq, Bool.or_self, if_true, if_false, Bool.false_eq_true, Bool.not_true, Bool.not_false, true_and, and_true, decide_true, decide_false, Option.map_some, M.is_non_int, M.is_non_bool, M.is_non_str, M.is_non_tuple, M.is_non_list, M.is_non_dict, M.is_bl_int, M.is_bl_bool, M.is_bl_str, M.is_bl_tuple, M.is_bl_list, M.is_bl_dict, M.is_int_int, M.is_int_bool, M.is_int_str, M.is_int_tuple, M.is_int_list, M.is_int_dict, M.is_str_int, M.is_str_bool, M.is_str_str, M.is_str_tuple, M.is_str_list, M.is_str_dict, M.is_tup_int, M.is_tup_bool, M.is_tup_str, M.is_tup_tuple, M.is_tup_list, M.is_tup_dict, M.is_lst_int, M.is_lst_bool, M.is_lst_str, M.is_lst_tuple, M.is_lst_list, M.is_lst_dict, M.isn_non, M.isn_bl, M.isn_int, M.isn_str, M.isn_tup, M.isn_lst, M.str_beq, M.f_non, M.f_bl, M.f_int, M.f_str, M.fe_str, M.fe_int, M.fe_si, M.fe_is, M.in_tup, M.in_lst, M.nin_tup, M.nin_lst, M.at_0, M.at_1, M.at_2, M.at_3, M.eq_int, M.ne_int, M.eq_bl, M.eq_nil, M.eq_str, M.ne_str, List.all_cons, List.all_nil, List.any_cons, List.any_nil, Bool.and_self, Bool.or_false, Bool.false_or, Bool.or_true, Bool.true_or, Bool.and_true, Bool.true_and, Bool.and_false, Bool.false_and, beq_self_eq_true, bne_self_eq_false, M.kCe, M.kCt, M.kForT_nx, M.kForT_ct, M.kForT_bk, M.kForT_rt, M.cut_1, M.all_1, M.all_2, M.any_1, M.any_2, M.sum_1, M.sum_2, M.all_map, M.any_map, M.sum_map, M.ok_eJs, M.ok_jsN, M.ok_jsC, M.kJs]
      rfl
  | succ r ih =>
    intro k ns v l b s hk hg hb hb2 hl v1 v2
    obtain ⟨k, rfl⟩ : ∃ j, k = j + 1 := ⟨k - 1, by omega⟩
    show fnM 9 (m__law_greatest W (G W k)) _ _ = _
    have q0 := tw_pos r
    have q1 := tw_le (r := r) (by omega)
    have q2 := tw_S r
    have sl : sizeLine = 16777216 := rfl
    have l3 := part_len (v + tw r) ns
    by_cases c : ns = []
    · apply Ok.eq
      unfold m__law_greatest pf
      subst c
      simp only [M.ok_ok, M.ok_no, M.oko_some, M.ok_eC, M.ok_eV0, M.ok_eVs, M.ok_e1, M.k1, M.ok_e2, M.k2a, M.k2, M.ok_evs0, M.ok_evs, M.kA, M.ok_eTup, M.ok_eLst, M.ok_eB, M.ok_eCall, M.kTup, M.kLst, M.kB, M.kCall, M.ok_eIf, M.kIfE, M.ok_eAnd, M.kAnd, M.ok_eOr, M.kOr, M.ok_eNot, M.kNotE, M.ok_eChain, M.kCh, M.kCh2, M.ok_tOfE, M.kTo, M.ok_tTru, M.kTru, M.ok_tAnd, M.ok_tOr, M.ok_tNot, M.kTAnd, M.kTOr, M.kTNot, M.ok_tYes, M.ok_pNo, M.ok_pSome, M.kPs, M.ok_eCut, M.kCut, M.kCut1, M.kCut2, M.ok_eDGet, M.kDg, M.kDg2, M.ok_sSeq, M.kSeq_nx, M.kSeq_rt, M.kSeq_bk, M.kSeq_ct, M.ok_sSet, M.kSet, M.ok_sAsg, M.kAsg, M.ok_sPar, M.kPar, M.ok_sDrop, M.kDrop, M.ok_sRet, M.kRet, M.ok_sRetN, M.ok_sNext, M.ok_sBrk, M.ok_sCnt, M.ok_sIf, M.kIf, M.kAug, M.kApp, M.ok_sFor, M.kFor, M.ok_fnM, M.kFn_rt, M.kFn_nx, M.ok_iS, M.kIS_lst, M.kIS_tup, M.ok_iR1, M.kR1, M.ok_iR2, M.kR2, M.ok_eLstRg, M.ok_eTupRg, M.kRg, M.ok_rg1, M.kRg1, M.ok_rg2, M.kRg2, M.kRg2b, M.ok_eM1, M.kM1, M.kM1b, M.ok_eComp, M.kComp, M.kComp1, M.ok_eComp2, M.kCompC, M.kCompB, M.ok_eDisp, M.kDisp, M.ok_sAug1, M.ok_sApp1, M.kApp1, M.kIt_nx, M.kIt_ct, M.kIt_bk, M.kIt_rt, M.v_sub, M.v_addI, M.v_addA, M.v_subA, M.v_lt, M.v_le, M.v_gt, M.v_ge, M.v_int, M.v_lenL, M.v_lenT, M.v_lenZ, M.v_abs, M.v_max, M.v_min, M.v_neg, M.v_ixL, M.v_ixT, M.v_ixZ, M.v_cutL, M.v_cutT, M.v_tupL, M.v_tupT, M.v_lstL, M.v_lstT, M.tr_bl, M.tr_int, M.tr_lst, M.tr_tup, M.tr_non, M.env0_go, M.g_N, M.g_T, M.g_sC, M.g_sN, M.wipe0, M.wipeS, M.ge_0, M.ge_S, List.set_cons_zero, List.set_cons_succ, List.map_cons, List.map_nil, List.cons_append, List.nil_append, List.length_cons, List.length_nil, Nat.reduceAdd, Nat.reduceSub, List.replicate_succ, List.replicate_zero, Option.bind_some, String.reduceBEq, Int.reduceBEq, Bool.or_self, if_true, if_false, Bool.false_eq_true, Bool.not_true, Bool.not_false, true_and, and_true, decide_true, decide_false, Option.map_some, M.is_non_int, M.is_non_bool, M.is_non_str, M.is_non_tuple, M.is_non_list, M.is_non_dict, M.is_bl_int, M.is_bl_bool, M.is_bl_str, M.is_bl_tuple, M.is_bl_list, M.is_bl_dict, M.is_int_int, M.is_int_bool, M.is_int_str, M.is_int_tuple, M.is_int_list, M.is_int_dict, M.is_str_int, M.is_str_bool, M.is_str_str, M.is_str_tuple, M.is_str_list, M.is_str_dict, M.is_tup_int, M.is_tup_bool, M.is_tup_str, M.is_tup_tuple, M.is_tup_list, M.is_tup_dict, M.is_lst_int, M.is_lst_bool, M.is_lst_str, M.is_lst_tuple, M.is_lst_list, M.is_lst_dict, M.isn_non, M.isn_bl, M.isn_int, M.isn_str, M.isn_tup, M.isn_lst, M.str_beq, M.f_non, M.f_bl, M.f_int, M.f_str, M.fe_str, M.fe_int, M.fe_si, M.fe_is, M.in_tup, M.in_lst, M.nin_tup, M.nin_lst, M.at_0, M.at_1, M.at_2, M.at_3, M.eq_int, M.ne_int, M.eq_bl, M.eq_nil, M.eq_str, M.ne_str, List.all_cons, List.all_nil, List.any_cons, List.any_nil, Bool.and_self, Bool.or_false, Bool.false_or, Bool.or_true, Bool.true_or, Bool.and_true, Bool.true_and, Bool.and_false, Bool.false_and, beq_self_eq_true, bne_self_eq_false, M.kCe, M.kCt, M.kForT_nx, M.kForT_ct, M.kForT_bk, M.kForT_rt, M.cut_1, M.all_1, M.all_2, M.any_1, M.any_2, M.sum_1, M.sum_2, M.all_map, M.any_map, M.sum_map, M.ok_eJs, M.ok_jsN, M.ok_jsC, M.kJs]
    · have en : oEq (.lst (ns.map .int)) (.lst []) = some (.bl (decide (ns = []))) := Enc.eq (Enc.lst Enc.int) (by decide) ns []
      have e1 : v + tw (r + 1) - v = tw (r + 1) := by omega
      by_cases c2 : (ns.length : Int) = tw (r + 1)
      · have c3 : ((ns.length : Int) == tw (r + 1)) = true := beq_iff_eq.mpr c2
        apply Ok.eq
        unfold m__law_greatest pf
        rw [if_neg c, if_pos c2]
        simp only [M.ok_ok, M.ok_no, M.oko_some, M.ok_eC, M.ok_eV0, M.ok_eVs, M.ok_e1, M.k1, M.ok_e2, M.k2a, M.k2, M.ok_evs0, M.ok_evs, M.kA, M.ok_eTup, M.ok_eLst, M.ok_eB, M.ok_eCall, M.kTup, M.kLst, M.kB, M.kCall, M.ok_eIf, M.kIfE, M.ok_eAnd, M.kAnd, M.ok_eOr, M.kOr, M.ok_eNot, M.kNotE, M.ok_eChain, M.kCh, M.kCh2, M.ok_tOfE, M.kTo, M.ok_tTru, M.kTru, M.ok_tAnd, M.ok_tOr, M.ok_tNot, M.kTAnd, M.kTOr, M.kTNot, M.ok_tYes, M.ok_pNo, M.ok_pSome, M.kPs, M.ok_eCut, M.kCut, M.kCut1, M.kCut2, M.ok_eDGet, M.kDg, M.kDg2, M.ok_sSeq, M.kSeq_nx, M.kSeq_rt, M.kSeq_bk, M.kSeq_ct, M.ok_sSet, M.kSet, M.ok_sAsg, M.kAsg, M.ok_sPar, M.kPar, M.ok_sDrop, M.kDrop, M.ok_sRet, M.kRet, M.ok_sRetN, M.ok_sNext, M.ok_sBrk, M.ok_sCnt, M.ok_sIf, M.kIf, M.kAug, M.kApp, M.ok_sFor, M.kFor, M.ok_fnM, M.kFn_rt, M.kFn_nx, M.ok_iS, M.kIS_lst, M.kIS_tup, M.ok_iR1, M.kR1, M.ok_iR2, M.kR2, M.ok_eLstRg, M.ok_eTupRg, M.kRg, M.ok_rg1, M.kRg1, M.ok_rg2, M.kRg2, M.kRg2b, M.ok_eM1, M.kM1, M.kM1b, M.ok_eComp, M.kComp, M.kComp1, M.ok_eComp2, M.kCompC, M.kCompB, M.ok_eDisp, M.kDisp, M.ok_sAug1, M.ok_sApp1, M.kApp1, M.kIt_nx, M.kIt_ct, M.kIt_bk, M.kIt_rt, M.v_sub, M.v_addI, M.v_addA, M.v_subA, M.v_lt, M.v_le, M.v_gt, M.v_ge, M.v_int, M.v_lenL, M.v_lenT, M.v_lenZ, M.v_abs, M.v_max, M.v_min, M.v_neg, M.v_ixL, M.v_ixT, M.v_ixZ, M.v_cutL, M.v_cutT, M.v_tupL, M.v_tupT, M.v_lstL, M.v_lstT, M.tr_bl, M.tr_int, M.tr_lst, M.tr_tup, M.tr_non, M.env0_go, M.g_N, M.g_T, M.g_sC, M.g_sN, M.wipe0, M.wipeS, M.ge_0, M.ge_S, List.set_cons_zero, List.set_cons_succ, List.map_cons, List.map_nil, List.cons_append, List.nil_append, List.length_cons, List.length_nil, Nat.reduceAdd, Nat.reduceSub, List.replicate_succ, List.replicate_zero, Option.bind_some, String.reduceBEq, Int.reduceBEq, Bool.or_self, if_true, if_false, Bool.false_eq_true, Bool.not_true, Bool.not_false, true_and, and_true, decide_true, decide_false, Option.map_some, M.is_non_int, M.is_non_bool, M.is_non_str, M.is_non_tuple, M.is_non_list, M.is_non_dict, M.is_bl_int, M.is_bl_bool, M.is_bl_str, M.is_bl_tuple, M.is_bl_list, M.is_bl_dict, M.is_int_int, M.is_int_bool, M.is_int_str, M.is_int_tuple, M.is_int_list, M.is_int_dict, M.is_str_int, M.is_str_bool, M.is_str_str, M.is_str_tuple, M.is_str_list, M.is_str_dict, M.is_tup_int, M.is_tup_bool, M.is_tup_str, M.is_tup_tuple, M.is_tup_list, M.is_tup_dict, M.is_lst_int, M.is_lst_bool, M.is_lst_str, M.is_lst_tuple, M.is_lst_list, M.is_lst_dict, M.isn_non, M.isn_bl, M.isn_int, M.isn_str, M.isn_tup, M.isn_lst, M.str_beq, M.f_non, M.f_bl, M.f_int, M.f_str, M.fe_str, M.fe_int, M.fe_si, M.fe_is, M.in_tup, M.in_lst, M.nin_tup, M.nin_lst, M.at_0, M.at_1, M.at_2, M.at_3, M.eq_int, M.ne_int, M.eq_bl, M.eq_nil, M.eq_str, M.ne_str, List.all_cons, List.all_nil, List.any_cons, List.any_nil, Bool.and_self, Bool.or_false, Bool.false_or, Bool.or_true, Bool.true_or, Bool.and_true, Bool.true_and, Bool.and_false, Bool.false_and, beq_self_eq_true, bne_self_eq_false, M.kCe, M.kCt, M.kForT_nx, M.kForT_ct, M.kForT_bk, M.kForT_rt, M.cut_1, M.all_1, M.all_2, M.any_1, M.any_2, M.sum_1, M.sum_2, M.all_map, M.any_map, M.sum_map, M.ok_eJs, M.ok_jsN, M.ok_jsC, M.kJs, en, c, e1, List.length_map, c3]
        refine ⟨by omega, ?_⟩
        rw [Int.toNat_natCast]
        refine Ok.mono (cnt_ok hb hb2) ?_
        rintro o s2 ⟨rfl, p7, rfl⟩
        simp only [M.ok_ok, M.ok_no, M.oko_some, M.ok_eC, M.ok_eV0, M.ok_eVs, M.ok_e1, M.k1, M.ok_e2, M.k2a, M.k2, M.ok_evs0, M.ok_evs, M.kA, M.ok_eTup, M.ok_eLst, M.ok_eB, M.ok_eCall, M.kTup, M.kLst, M.kB, M.kCall, M.ok_eIf, M.kIfE, M.ok_eAnd, M.kAnd, M.ok_eOr, M.kOr, M.ok_eNot, M.kNotE, M.ok_eChain, M.kCh, M.kCh2, M.ok_tOfE, M.kTo, M.ok_tTru, M.kTru, M.ok_tAnd, M.ok_tOr, M.ok_tNot, M.kTAnd, M.kTOr, M.kTNot, M.ok_tYes, M.ok_pNo, M.ok_pSome, M.kPs, M.ok_eCut, M.kCut, M.kCut1, M.kCut2, M.ok_eDGet, M.kDg, M.kDg2, M.ok_sSeq, M.kSeq_nx, M.kSeq_rt, M.kSeq_bk, M.kSeq_ct, M.ok_sSet, M.kSet, M.ok_sAsg, M.kAsg, M.ok_sPar, M.kPar, M.ok_sDrop, M.kDrop, M.ok_sRet, M.kRet, M.ok_sRetN, M.ok_sNext, M.ok_sBrk, M.ok_sCnt, M.ok_sIf, M.kIf, M.kAug, M.kApp, M.ok_sFor, M.kFor, M.ok_fnM, M.kFn_rt, M.kFn_nx, M.ok_iS, M.kIS_lst, M.kIS_tup, M.ok_iR1, M.kR1, M.ok_iR2, M.kR2, M.ok_eLstRg, M.ok_eTupRg, M.kRg, M.ok_rg1, M.kRg1, M.ok_rg2, M.kRg2, M.kRg2b, M.ok_eM1, M.kM1, M.kM1b, M.ok_eComp, M.kComp, M.kComp1, M.ok_eComp2, M.kCompC, M.kCompB, M.ok_eDisp, M.kDisp, M.ok_sAug1, M.ok_sApp1, M.kApp1, M.kIt_nx, M.kIt_ct, M.kIt_bk, M.kIt_rt, M.v_sub, M.v_addI, M.v_addA, M.v_subA, M.v_lt, M.v_le, M.v_gt, M.v_ge, M.v_int, M.v_lenL, M.v_lenT, M.v_lenZ, M.v_abs, M.v_max, M.v_min, M.v_neg, M.v_ixL, M.v_ixT, M.v_ixZ, M.v_cutL, M.v_cutT, M.v_tupL, M.v_tupT, M.v_lstL, M.v_lstT, M.tr_bl, M.tr_int, M.tr_lst, M.tr_tup, M.tr_non, M.env0_go, M.g_N, M.g_T, M.g_sC, M.g_sN, M.wipe0, M.wipeS, M.ge_0, M.ge_S, List.set_cons_zero, List.set_cons_succ, List.map_cons, List.map_nil, List.cons_append, List.nil_append, List.length_cons, List.length_nil, Nat.reduceAdd, Nat.reduceSub, List.replicate_succ, List.replicate_zero, Option.bind_some, String.reduceBEq, Int.reduceBEq, Bool.or_self, if_true, if_false, Bool.false_eq_true, Bool.not_true, Bool.not_false, true_and, and_true, decide_true, decide_false, Option.map_some, M.is_non_int, M.is_non_bool, M.is_non_str, M.is_non_tuple, M.is_non_list, M.is_non_dict, M.is_bl_int, M.is_bl_bool, M.is_bl_str, M.is_bl_tuple, M.is_bl_list, M.is_bl_dict, M.is_int_int, M.is_int_bool, M.is_int_str, M.is_int_tuple, M.is_int_list, M.is_int_dict, M.is_str_int, M.is_str_bool, M.is_str_str, M.is_str_tuple, M.is_str_list, M.is_str_dict, M.is_tup_int, M.is_tup_bool, M.is_tup_str, M.is_tup_tuple, M.is_tup_list, M.is_tup_dict, M.is_lst_int, M.is_lst_bool, M.is_lst_str, M.is_lst_tuple, M.is_lst_list, M.is_lst_dict, M.isn_non, M.isn_bl, M.isn_int, M.isn_str, M.isn_tup, M.isn_lst, M.str_beq, M.f_non, M.f_bl, M.f_int, M.f_str, M.fe_str, M.fe_int, M.fe_si, M.fe_is, M.in_tup, M.in_lst, M.nin_tup, M.nin_lst, M.at_0, M.at_1, M.at_2, M.at_3, M.eq_int, M.ne_int, M.eq_bl, M.eq_nil, M.eq_str, M.ne_str, List.all_cons, List.all_nil, List.any_cons, List.any_nil, Bool.and_self, Bool.or_false, Bool.false_or, Bool.or_true, Bool.true_or, Bool.and_true, Bool.true_and, Bool.and_false, Bool.false_and, beq_self_eq_true, bne_self_eq_false, M.kCe, M.kCt, M.kForT_nx, M.kForT_ct, M.kForT_bk, M.kForT_rt, M.cut_1, M.all_1, M.all_2, M.any_1, M.any_2, M.sum_1, M.sum_2, M.all_map, M.any_map, M.sum_map, M.ok_eJs, M.ok_jsN, M.ok_jsC, M.kJs]
        rfl
      · have c3 : ((ns.length : Int) == tw (r + 1)) = false := beq_eq_false_iff_ne.mpr c2
        have i1 := ih k (lo (v + tw r) ns) v (l + 1) b s (by omega) hg.lo (by omega) hb2 (by omega) v1 (by omega)
        have em : (v + (v + tw (r + 1))) / 2 = v + tw r := by omega
        have ee : v + tw (r + 1) = v + tw r + tw r := by omega
        by_cases vb : v + tw r ≤ 2 ^ 20
        · have i2 := ih k (hi (v + tw r) ns) (v + tw r) (l + 1) b s (by omega) hg.hi (by omega) hb2 (by omega) (by omega) (by omega)
          rw [← ee] at i2
          generalize G W k = g at i1 i2 ⊢
          apply Ok.eq
          unfold m__law_greatest pf
          rw [if_neg c, if_neg c2]
          simp only [M.ok_ok, M.ok_no, M.oko_some, M.ok_eC, M.ok_eV0, M.ok_eVs, M.ok_e1, M.k1, M.ok_e2, M.k2a, M.k2, M.ok_evs0, M.ok_evs, M.kA, M.ok_eTup, M.ok_eLst, M.ok_eB, M.ok_eCall, M.kTup, M.kLst, M.kB, M.kCall, M.ok_eIf, M.kIfE, M.ok_eAnd, M.kAnd, M.ok_eOr, M.kOr, M.ok_eNot, M.kNotE, M.ok_eChain, M.kCh, M.kCh2, M.ok_tOfE, M.kTo, M.ok_tTru, M.kTru, M.ok_tAnd, M.ok_tOr, M.ok_tNot, M.kTAnd, M.kTOr, M.kTNot, M.ok_tYes, M.ok_pNo, M.ok_pSome, M.kPs, M.ok_eCut, M.kCut, M.kCut1, M.kCut2, M.ok_eDGet, M.kDg, M.kDg2, M.ok_sSeq, M.kSeq_nx, M.kSeq_rt, M.kSeq_bk, M.kSeq_ct, M.ok_sSet, M.kSet, M.ok_sAsg, M.kAsg, M.ok_sPar, M.kPar, M.ok_sDrop, M.kDrop, M.ok_sRet, M.kRet, M.ok_sRetN, M.ok_sNext, M.ok_sBrk, M.ok_sCnt, M.ok_sIf, M.kIf, M.kAug, M.kApp, M.ok_sFor, M.kFor, M.ok_fnM, M.kFn_rt, M.kFn_nx, M.ok_iS, M.kIS_lst, M.kIS_tup, M.ok_iR1, M.kR1, M.ok_iR2, M.kR2, M.ok_eLstRg, M.ok_eTupRg, M.kRg, M.ok_rg1, M.kRg1, M.ok_rg2, M.kRg2, M.kRg2b, M.ok_eM1, M.kM1, M.kM1b, M.ok_eComp, M.kComp, M.kComp1, M.ok_eComp2, M.kCompC, M.kCompB, M.ok_eDisp, M.kDisp, M.ok_sAug1, M.ok_sApp1, M.kApp1, M.kIt_nx, M.kIt_ct, M.kIt_bk, M.kIt_rt, M.v_sub, M.v_addI, M.v_addA, M.v_subA, M.v_lt, M.v_le, M.v_gt, M.v_ge, M.v_int, M.v_lenL, M.v_lenT, M.v_lenZ, M.v_abs, M.v_max, M.v_min, M.v_neg, M.v_ixL, M.v_ixT, M.v_ixZ, M.v_cutL, M.v_cutT, M.v_tupL, M.v_tupT, M.v_lstL, M.v_lstT, M.tr_bl, M.tr_int, M.tr_lst, M.tr_tup, M.tr_non, M.env0_go, M.g_N, M.g_T, M.g_sC, M.g_sN, M.wipe0, M.wipeS, M.ge_0, M.ge_S, List.set_cons_zero, List.set_cons_succ, List.map_cons, List.map_nil, List.cons_append, List.nil_append, List.length_cons, List.length_nil, Nat.reduceAdd, Nat.reduceSub, List.replicate_succ, List.replicate_zero, Option.bind_some, String.reduceBEq, Int.reduceBEq, Bool.or_self, if_true, if_false, Bool.false_eq_true, Bool.not_true, Bool.not_false, true_and, and_true, decide_true, decide_false, Option.map_some, M.is_non_int, M.is_non_bool, M.is_non_str, M.is_non_tuple, M.is_non_list, M.is_non_dict, M.is_bl_int, M.is_bl_bool, M.is_bl_str, M.is_bl_tuple, M.is_bl_list, M.is_bl_dict, M.is_int_int, M.is_int_bool, M.is_int_str, M.is_int_tuple, M.is_int_list, M.is_int_dict, M.is_str_int, M.is_str_bool, M.is_str_str, M.is_str_tuple, M.is_str_list, M.is_str_dict, M.is_tup_int, M.is_tup_bool, M.is_tup_str, M.is_tup_tuple, M.is_tup_list, M.is_tup_dict, M.is_lst_int, M.is_lst_bool, M.is_lst_str, M.is_lst_tuple, M.is_lst_list, M.is_lst_dict, M.isn_non, M.isn_bl, M.isn_int, M.isn_str, M.isn_tup, M.isn_lst, M.str_beq, M.f_non, M.f_bl, M.f_int, M.f_str, M.fe_str, M.fe_int, M.fe_si, M.fe_is, M.in_tup, M.in_lst, M.nin_tup, M.nin_lst, M.at_0, M.at_1, M.at_2, M.at_3, M.eq_int, M.ne_int, M.eq_bl, M.eq_nil, M.eq_str, M.ne_str, List.all_cons, List.all_nil, List.any_cons, List.any_nil, Bool.and_self, Bool.or_false, Bool.false_or, Bool.or_true, Bool.true_or, Bool.and_true, Bool.true_and, Bool.and_false, Bool.false_and, beq_self_eq_true, bne_self_eq_false, M.kCe, M.kCt, M.kForT_nx, M.kForT_ct, M.kForT_bk, M.kForT_rt, M.cut_1, M.all_1, M.all_2, M.any_1, M.any_2, M.sum_1, M.sum_2, M.all_map, M.any_map, M.sum_map, M.ok_eJs, M.ok_jsN, M.ok_jsC, M.kJs, en, c, e1, List.length_map, c3, v_div (show (0 : Int) < 2 by decide) (show (2 : Int) < 2 ^ 64 by decide), em]
          refine Ok.of (comp_f (ltD (v + tw r)) id fun d hd => ?_) ?_
          · obtain ⟨n, _, rfl⟩ := List.mem_map.mp hd
            unfold ltD
            simp only [M.ok_ok, M.ok_no, M.oko_some, M.ok_eC, M.ok_eV0, M.ok_eVs, M.ok_e1, M.k1, M.ok_e2, M.k2a, M.k2, M.ok_evs0, M.ok_evs, M.kA, M.ok_eTup, M.ok_eLst, M.ok_eB, M.ok_eCall, M.kTup, M.kLst, M.kB, M.kCall, M.ok_eIf, M.kIfE, M.ok_eAnd, M.kAnd, M.ok_eOr, M.kOr, M.ok_eNot, M.kNotE, M.ok_eChain, M.kCh, M.kCh2, M.ok_tOfE, M.kTo, M.ok_tTru, M.kTru, M.ok_tAnd, M.ok_tOr, M.ok_tNot, M.kTAnd, M.kTOr, M.kTNot, M.ok_tYes, M.ok_pNo, M.ok_pSome, M.kPs, M.ok_eCut, M.kCut, M.kCut1, M.kCut2, M.ok_eDGet, M.kDg, M.kDg2, M.ok_sSeq, M.kSeq_nx, M.kSeq_rt, M.kSeq_bk, M.kSeq_ct, M.ok_sSet, M.kSet, M.ok_sAsg, M.kAsg, M.ok_sPar, M.kPar, M.ok_sDrop, M.kDrop, M.ok_sRet, M.kRet, M.ok_sRetN, M.ok_sNext, M.ok_sBrk, M.ok_sCnt, M.ok_sIf, M.kIf, M.kAug, M.kApp, M.ok_sFor, M.kFor, M.ok_fnM, M.kFn_rt, M.kFn_nx, M.ok_iS, M.kIS_lst, M.kIS_tup, M.ok_iR1, M.kR1, M.ok_iR2, M.kR2, M.ok_eLstRg, M.ok_eTupRg, M.kRg, M.ok_rg1, M.kRg1, M.ok_rg2, M.kRg2, M.kRg2b, M.ok_eM1, M.kM1, M.kM1b, M.ok_eComp, M.kComp, M.kComp1, M.ok_eComp2, M.kCompC, M.kCompB, M.ok_eDisp, M.kDisp, M.ok_sAug1, M.ok_sApp1, M.kApp1, M.kIt_nx, M.kIt_ct, M.kIt_bk, M.kIt_rt, M.v_sub, M.v_addI, M.v_addA, M.v_subA, M.v_lt, M.v_le, M.v_gt, M.v_ge, M.v_int, M.v_lenL, M.v_lenT, M.v_lenZ, M.v_abs, M.v_max, M.v_min, M.v_neg, M.v_ixL, M.v_ixT, M.v_ixZ, M.v_cutL, M.v_cutT, M.v_tupL, M.v_tupT, M.v_lstL, M.v_lstT, M.tr_bl, M.tr_int, M.tr_lst, M.tr_tup, M.tr_non, M.env0_go, M.g_N, M.g_T, M.g_sC, M.g_sN, M.wipe0, M.wipeS, M.ge_0, M.ge_S, List.set_cons_zero, List.set_cons_succ, List.map_cons, List.map_nil, List.cons_append, List.nil_append, List.length_cons, List.length_nil, Nat.reduceAdd, Nat.reduceSub, List.replicate_succ, List.replicate_zero, Option.bind_some, String.reduceBEq, Int.reduceBEq, Bool.or_self, if_true, if_false, Bool.false_eq_true, Bool.not_true, Bool.not_false, true_and, and_true, decide_true, decide_false, Option.map_some, M.is_non_int, M.is_non_bool, M.is_non_str, M.is_non_tuple, M.is_non_list, M.is_non_dict, M.is_bl_int, M.is_bl_bool, M.is_bl_str, M.is_bl_tuple, M.is_bl_list, M.is_bl_dict, M.is_int_int, M.is_int_bool, M.is_int_str, M.is_int_tuple, M.is_int_list, M.is_int_dict, M.is_str_int, M.is_str_bool, M.is_str_str, M.is_str_tuple, M.is_str_list, M.is_str_dict, M.is_tup_int, M.is_tup_bool, M.is_tup_str, M.is_tup_tuple, M.is_tup_list, M.is_tup_dict, M.is_lst_int, M.is_lst_bool, M.is_lst_str, M.is_lst_tuple, M.is_lst_list, M.is_lst_dict, M.isn_non, M.isn_bl, M.isn_int, M.isn_str, M.isn_tup, M.isn_lst, M.str_beq, M.f_non, M.f_bl, M.f_int, M.f_str, M.fe_str, M.fe_int, M.fe_si, M.fe_is, M.in_tup, M.in_lst, M.nin_tup, M.nin_lst, M.at_0, M.at_1, M.at_2, M.at_3, M.eq_int, M.ne_int, M.eq_bl, M.eq_nil, M.eq_str, M.ne_str, List.all_cons, List.all_nil, List.any_cons, List.any_nil, Bool.and_self, Bool.or_false, Bool.false_or, Bool.or_true, Bool.true_or, Bool.and_true, Bool.true_and, Bool.and_false, Bool.false_and, beq_self_eq_true, bne_self_eq_false, M.kCe, M.kCt, M.kForT_nx, M.kForT_ct, M.kForT_bk, M.kForT_rt, M.cut_1, M.all_1, M.all_2, M.any_1, M.any_2, M.sum_1, M.sum_2, M.all_map, M.any_map, M.sum_map, M.ok_eJs, M.ok_jsN, M.ok_jsC, M.kJs]
            simp
          rw [lo_map]
          simp only [M.ok_ok, M.ok_no, M.oko_some, M.ok_eC, M.ok_eV0, M.ok_eVs, M.ok_e1, M.k1, M.ok_e2, M.k2a, M.k2, M.ok_evs0, M.ok_evs, M.kA, M.ok_eTup, M.ok_eLst, M.ok_eB, M.ok_eCall, M.kTup, M.kLst, M.kB, M.kCall, M.ok_eIf, M.kIfE, M.ok_eAnd, M.kAnd, M.ok_eOr, M.kOr, M.ok_eNot, M.kNotE, M.ok_eChain, M.kCh, M.kCh2, M.ok_tOfE, M.kTo, M.ok_tTru, M.kTru, M.ok_tAnd, M.ok_tOr, M.ok_tNot, M.kTAnd, M.kTOr, M.kTNot, M.ok_tYes, M.ok_pNo, M.ok_pSome, M.kPs, M.ok_eCut, M.kCut, M.kCut1, M.kCut2, M.ok_eDGet, M.kDg, M.kDg2, M.ok_sSeq, M.kSeq_nx, M.kSeq_rt, M.kSeq_bk, M.kSeq_ct, M.ok_sSet, M.kSet, M.ok_sAsg, M.kAsg, M.ok_sPar, M.kPar, M.ok_sDrop, M.kDrop, M.ok_sRet, M.kRet, M.ok_sRetN, M.ok_sNext, M.ok_sBrk, M.ok_sCnt, M.ok_sIf, M.kIf, M.kAug, M.kApp, M.ok_sFor, M.kFor, M.ok_fnM, M.kFn_rt, M.kFn_nx, M.ok_iS, M.kIS_lst, M.kIS_tup, M.ok_iR1, M.kR1, M.ok_iR2, M.kR2, M.ok_eLstRg, M.ok_eTupRg, M.kRg, M.ok_rg1, M.kRg1, M.ok_rg2, M.kRg2, M.kRg2b, M.ok_eM1, M.kM1, M.kM1b, M.ok_eComp, M.kComp, M.kComp1, M.ok_eComp2, M.kCompC, M.kCompB, M.ok_eDisp, M.kDisp, M.ok_sAug1, M.ok_sApp1, M.kApp1, M.kIt_nx, M.kIt_ct, M.kIt_bk, M.kIt_rt, M.v_sub, M.v_addI, M.v_addA, M.v_subA, M.v_lt, M.v_le, M.v_gt, M.v_ge, M.v_int, M.v_lenL, M.v_lenT, M.v_lenZ, M.v_abs, M.v_max, M.v_min, M.v_neg, M.v_ixL, M.v_ixT, M.v_ixZ, M.v_cutL, M.v_cutT, M.v_tupL, M.v_tupT, M.v_lstL, M.v_lstT, M.tr_bl, M.tr_int, M.tr_lst, M.tr_tup, M.tr_non, M.env0_go, M.g_N, M.g_T, M.g_sC, M.g_sN, M.wipe0, M.wipeS, M.ge_0, M.ge_S, List.set_cons_zero, List.set_cons_succ, List.map_cons, List.map_nil, List.cons_append, List.nil_append, List.length_cons, List.length_nil, Nat.reduceAdd, Nat.reduceSub, List.replicate_succ, List.replicate_zero, Option.bind_some, String.reduceBEq, Int.reduceBEq, Bool.or_self, if_true, if_false, Bool.false_eq_true, Bool.not_true, Bool.not_false, true_and, and_true, decide_true, decide_false, Option.map_some, M.is_non_int, M.is_non_bool, M.is_non_str, M.is_non_tuple, M.is_non_list, M.is_non_dict, M.is_bl_int, M.is_bl_bool, M.is_bl_str, M.is_bl_tuple, M.is_bl_list, M.is_bl_dict, M.is_int_int, M.is_int_bool, M.is_int_str, M.is_int_tuple, M.is_int_list, M.is_int_dict, M.is_str_int, M.is_str_bool, M.is_str_str, M.is_str_tuple, M.is_str_list, M.is_str_dict, M.is_tup_int, M.is_tup_bool, M.is_tup_str, M.is_tup_tuple, M.is_tup_list, M.is_tup_dict, M.is_lst_int, M.is_lst_bool, M.is_lst_str, M.is_lst_tuple, M.is_lst_list, M.is_lst_dict, M.isn_non, M.isn_bl, M.isn_int, M.isn_str, M.isn_tup, M.isn_lst, M.str_beq, M.f_non, M.f_bl, M.f_int, M.f_str, M.fe_str, M.fe_int, M.fe_si, M.fe_is, M.in_tup, M.in_lst, M.nin_tup, M.nin_lst, M.at_0, M.at_1, M.at_2, M.at_3, M.eq_int, M.ne_int, M.eq_bl, M.eq_nil, M.eq_str, M.ne_str, List.all_cons, List.all_nil, List.any_cons, List.any_nil, Bool.and_self, Bool.or_false, Bool.false_or, Bool.or_true, Bool.true_or, Bool.and_true, Bool.true_and, Bool.and_false, Bool.false_and, beq_self_eq_true, bne_self_eq_false, M.kCe, M.kCt, M.kForT_nx, M.kForT_ct, M.kForT_bk, M.kForT_rt, M.cut_1, M.all_1, M.all_2, M.any_1, M.any_2, M.sum_1, M.sum_2, M.all_map, M.any_map, M.sum_map, M.ok_eJs, M.ok_jsN, M.ok_jsC, M.kJs, i1]
          refine Ok.of (comp_f (geD (v + tw r)) id fun d hd => ?_) ?_
          · obtain ⟨n, _, rfl⟩ := List.mem_map.mp hd
            unfold geD
            simp only [M.ok_ok, M.ok_no, M.oko_some, M.ok_eC, M.ok_eV0, M.ok_eVs, M.ok_e1, M.k1, M.ok_e2, M.k2a, M.k2, M.ok_evs0, M.ok_evs, M.kA, M.ok_eTup, M.ok_eLst, M.ok_eB, M.ok_eCall, M.kTup, M.kLst, M.kB, M.kCall, M.ok_eIf, M.kIfE, M.ok_eAnd, M.kAnd, M.ok_eOr, M.kOr, M.ok_eNot, M.kNotE, M.ok_eChain, M.kCh, M.kCh2, M.ok_tOfE, M.kTo, M.ok_tTru, M.kTru, M.ok_tAnd, M.ok_tOr, M.ok_tNot, M.kTAnd, M.kTOr, M.kTNot, M.ok_tYes, M.ok_pNo, M.ok_pSome, M.kPs, M.ok_eCut, M.kCut, M.kCut1, M.kCut2, M.ok_eDGet, M.kDg, M.kDg2, M.ok_sSeq, M.kSeq_nx, M.kSeq_rt, M.kSeq_bk, M.kSeq_ct, M.ok_sSet, M.kSet, M.ok_sAsg, M.kAsg, M.ok_sPar, M.kPar, M.ok_sDrop, M.kDrop, M.ok_sRet, M.kRet, M.ok_sRetN, M.ok_sNext, M.ok_sBrk, M.ok_sCnt, M.ok_sIf, M.kIf, M.kAug, M.kApp, M.ok_sFor, M.kFor, M.ok_fnM, M.kFn_rt, M.kFn_nx, M.ok_iS, M.kIS_lst, M.kIS_tup, M.ok_iR1, M.kR1, M.ok_iR2, M.kR2, M.ok_eLstRg, M.ok_eTupRg, M.kRg, M.ok_rg1, M.kRg1, M.ok_rg2, M.kRg2, M.kRg2b, M.ok_eM1, M.kM1, M.kM1b, M.ok_eComp, M.kComp, M.kComp1, M.ok_eComp2, M.kCompC, M.kCompB, M.ok_eDisp, M.kDisp, M.ok_sAug1, M.ok_sApp1, M.kApp1, M.kIt_nx, M.kIt_ct, M.kIt_bk, M.kIt_rt, M.v_sub, M.v_addI, M.v_addA, M.v_subA, M.v_lt, M.v_le, M.v_gt, M.v_ge, M.v_int, M.v_lenL, M.v_lenT, M.v_lenZ, M.v_abs, M.v_max, M.v_min, M.v_neg, M.v_ixL, M.v_ixT, M.v_ixZ, M.v_cutL, M.v_cutT, M.v_tupL, M.v_tupT, M.v_lstL, M.v_lstT, M.tr_bl, M.tr_int, M.tr_lst, M.tr_tup, M.tr_non, M.env0_go, M.g_N, M.g_T, M.g_sC, M.g_sN, M.wipe0, M.wipeS, M.ge_0, M.ge_S, List.set_cons_zero, List.set_cons_succ, List.map_cons, List.map_nil, List.cons_append, List.nil_append, List.length_cons, List.length_nil, Nat.reduceAdd, Nat.reduceSub, List.replicate_succ, List.replicate_zero, Option.bind_some, String.reduceBEq, Int.reduceBEq, Bool.or_self, if_true, if_false, Bool.false_eq_true, Bool.not_true, Bool.not_false, true_and, and_true, decide_true, decide_false, Option.map_some, M.is_non_int, M.is_non_bool, M.is_non_str, M.is_non_tuple, M.is_non_list, M.is_non_dict, M.is_bl_int, M.is_bl_bool, M.is_bl_str, M.is_bl_tuple, M.is_bl_list, M.is_bl_dict, M.is_int_int, M.is_int_bool, M.is_int_str, M.is_int_tuple, M.is_int_list, M.is_int_dict, M.is_str_int, M.is_str_bool, M.is_str_str, M.is_str_tuple, M.is_str_list, M.is_str_dict, M.is_tup_int, M.is_tup_bool, M.is_tup_str, M.is_tup_tuple, M.is_tup_list, M.is_tup_dict, M.is_lst_int, M.is_lst_bool, M.is_lst_str, M.is_lst_tuple, M.is_lst_list, M.is_lst_dict, M.isn_non, M.isn_bl, M.isn_int, M.isn_str, M.isn_tup, M.isn_lst, M.str_beq, M.f_non, M.f_bl, M.f_int, M.f_str, M.fe_str, M.fe_int, M.fe_si, M.fe_is, M.in_tup, M.in_lst, M.nin_tup, M.nin_lst, M.at_0, M.at_1, M.at_2, M.at_3, M.eq_int, M.ne_int, M.eq_bl, M.eq_nil, M.eq_str, M.ne_str, List.all_cons, List.all_nil, List.any_cons, List.any_nil, Bool.and_self, Bool.or_false, Bool.false_or, Bool.or_true, Bool.true_or, Bool.and_true, Bool.true_and, Bool.and_false, Bool.false_and, beq_self_eq_true, bne_self_eq_false, M.kCe, M.kCt, M.kForT_nx, M.kForT_ct, M.kForT_bk, M.kForT_rt, M.cut_1, M.all_1, M.all_2, M.any_1, M.any_2, M.sum_1, M.sum_2, M.all_map, M.any_map, M.sum_map, M.ok_eJs, M.ok_jsN, M.ok_jsC, M.kJs]
            simp
          rw [hi_map]
          have l1 := pf_len r (lo (v + tw r) ns) v (l + 1)
          have l2 := pf_len r (hi (v + tw r) ns) (v + tw r) (l + 1)
          simp only [M.ok_ok, M.ok_no, M.oko_some, M.ok_eC, M.ok_eV0, M.ok_eVs, M.ok_e1, M.k1, M.ok_e2, M.k2a, M.k2, M.ok_evs0, M.ok_evs, M.kA, M.ok_eTup, M.ok_eLst, M.ok_eB, M.ok_eCall, M.kTup, M.kLst, M.kB, M.kCall, M.ok_eIf, M.kIfE, M.ok_eAnd, M.kAnd, M.ok_eOr, M.kOr, M.ok_eNot, M.kNotE, M.ok_eChain, M.kCh, M.kCh2, M.ok_tOfE, M.kTo, M.ok_tTru, M.kTru, M.ok_tAnd, M.ok_tOr, M.ok_tNot, M.kTAnd, M.kTOr, M.kTNot, M.ok_tYes, M.ok_pNo, M.ok_pSome, M.kPs, M.ok_eCut, M.kCut, M.kCut1, M.kCut2, M.ok_eDGet, M.kDg, M.kDg2, M.ok_sSeq, M.kSeq_nx, M.kSeq_rt, M.kSeq_bk, M.kSeq_ct, M.ok_sSet, M.kSet, M.ok_sAsg, M.kAsg, M.ok_sPar, M.kPar, M.ok_sDrop, M.kDrop, M.ok_sRet, M.kRet, M.ok_sRetN, M.ok_sNext, M.ok_sBrk, M.ok_sCnt, M.ok_sIf, M.kIf, M.kAug, M.kApp, M.ok_sFor, M.kFor, M.ok_fnM, M.kFn_rt, M.kFn_nx, M.ok_iS, M.kIS_lst, M.kIS_tup, M.ok_iR1, M.kR1, M.ok_iR2, M.kR2, M.ok_eLstRg, M.ok_eTupRg, M.kRg, M.ok_rg1, M.kRg1, M.ok_rg2, M.kRg2, M.kRg2b, M.ok_eM1, M.kM1, M.kM1b, M.ok_eComp, M.kComp, M.kComp1, M.ok_eComp2, M.kCompC, M.kCompB, M.ok_eDisp, M.kDisp, M.ok_sAug1, M.ok_sApp1, M.kApp1, M.kIt_nx, M.kIt_ct, M.kIt_bk, M.kIt_rt, M.v_sub, M.v_addI, M.v_addA, M.v_subA, M.v_lt, M.v_le, M.v_gt, M.v_ge, M.v_int, M.v_lenL, M.v_lenT, M.v_lenZ, M.v_abs, M.v_max, M.v_min, M.v_neg, M.v_ixL, M.v_ixT, M.v_ixZ, M.v_cutL, M.v_cutT, M.v_tupL, M.v_tupT, M.v_lstL, M.v_lstT, M.tr_bl, M.tr_int, M.tr_lst, M.tr_tup, M.tr_non, M.env0_go, M.g_N, M.g_T, M.g_sC, M.g_sN, M.wipe0, M.wipeS, M.ge_0, M.ge_S, List.set_cons_zero, List.set_cons_succ, List.map_cons, List.map_nil, List.cons_append, List.nil_append, List.length_cons, List.length_nil, Nat.reduceAdd, Nat.reduceSub, List.replicate_succ, List.replicate_zero, Option.bind_some, String.reduceBEq, Int.reduceBEq, Bool.or_self, if_true, if_false, Bool.false_eq_true, Bool.not_true, Bool.not_false, true_and, and_true, decide_true, decide_false, Option.map_some, M.is_non_int, M.is_non_bool, M.is_non_str, M.is_non_tuple, M.is_non_list, M.is_non_dict, M.is_bl_int, M.is_bl_bool, M.is_bl_str, M.is_bl_tuple, M.is_bl_list, M.is_bl_dict, M.is_int_int, M.is_int_bool, M.is_int_str, M.is_int_tuple, M.is_int_list, M.is_int_dict, M.is_str_int, M.is_str_bool, M.is_str_str, M.is_str_tuple, M.is_str_list, M.is_str_dict, M.is_tup_int, M.is_tup_bool, M.is_tup_str, M.is_tup_tuple, M.is_tup_list, M.is_tup_dict, M.is_lst_int, M.is_lst_bool, M.is_lst_str, M.is_lst_tuple, M.is_lst_list, M.is_lst_dict, M.isn_non, M.isn_bl, M.isn_int, M.isn_str, M.isn_tup, M.isn_lst, M.str_beq, M.f_non, M.f_bl, M.f_int, M.f_str, M.fe_str, M.fe_int, M.fe_si, M.fe_is, M.in_tup, M.in_lst, M.nin_tup, M.nin_lst, M.at_0, M.at_1, M.at_2, M.at_3, M.eq_int, M.ne_int, M.eq_bl, M.eq_nil, M.eq_str, M.ne_str, List.all_cons, List.all_nil, List.any_cons, List.any_nil, Bool.and_self, Bool.or_false, Bool.false_or, Bool.or_true, Bool.true_or, Bool.and_true, Bool.true_and, Bool.and_false, Bool.false_and, beq_self_eq_true, bne_self_eq_false, M.kCe, M.kCt, M.kForT_nx, M.kForT_ct, M.kForT_bk, M.kForT_rt, M.cut_1, M.all_1, M.all_2, M.any_1, M.any_2, M.sum_1, M.sum_2, M.all_map, M.any_map, M.sum_map, M.ok_eJs, M.ok_jsN, M.ok_jsC, M.kJs, i2, v_addL (show ((pf r (lo (v + tw r) ns) v (l + 1)).map p2).length + ((pf r (hi (v + tw r) ns) (v + tw r) (l + 1)).map p2).length ≤ sizeLine by rw [List.length_map, List.length_map]; omega)]
          rw [List.map_append]
        · exact absurd v2 (by omega)
end Ob
namespace Ob
open PySem PySem.Spec PyProof.Rows L2 M
variable {W : Nat}
theorem cov_iff (q n : Int) (r : Nat) : (q == n / 2 ^ r) = (decide (q * tw r ≤ n) && decide (n < q * tw r + tw r)) := by
  have p := tw_pos r
  have e : (2 : Int) ^ r = tw r := by have := tw_go r; rw [Int.one_mul] at this; exact this
  rw [e]
  have h1 := Int.emod_def n (tw r)
  have h2 := Int.emod_nonneg n (show tw r ≠ 0 by omega)
  have h3 := Int.emod_lt_of_pos n p
  by_cases c : q = n / tw r
  · rw [beq_iff_eq.mpr c]
    have e2 : q * tw r = tw r * (n / tw r) := by rw [c, Int.mul_comm]
    have c1 : q * tw r ≤ n := by omega
    have c2 : n < q * tw r + tw r := by omega
    simp [c1, c2]
  · rw [beq_eq_false_iff_ne.mpr c]
    symm
    rw [Bool.and_eq_false_iff]
    by_cases c1 : q * tw r ≤ n
    · right
      simp only [decide_eq_false_iff_not]
      intro c2
      apply c
      have a1 : q ≤ n / tw r := Int.le_ediv_of_mul_le p c1
      have a2 : n / tw r < q + 1 := Int.ediv_lt_of_lt_mul p (by rw [Int.add_mul, Int.one_mul]; exact c2)
      omega
    · left; simpa using c1
theorem cov_of {k r l b : Nat} {q n : Int} {s : Sto} (hk : 0 < k) (hb : b = l + r) (hb2 : b ≤ 12) : G W k 0 [.tup [.int (q * tw r), .int l], .int b, .int n] s = .ok (.bl (decide (q * tw r ≤ n) && decide (n < q * tw r + tw r))) s := by
  obtain ⟨k, rfl⟩ : ∃ j, k = j + 1 := ⟨k - 1, by omega⟩
  show fnM 5 (m_covers W (G W k)) _ _ = _
  apply Ok.eq
  unfold m_covers
  have e1 : (b : Int) - l = (r : Nat) := by omega
  have s1 : ∀ i : Int, oShr (.int i) (.int ((r : Nat) : Int)) = some (.int (i / 2 ^ r)) := fun i => by have := v_shr (i := i) (j := ((r : Nat) : Int)) (by omega); rw [Int.toNat_natCast] at this; exact this
  have e : (2 : Int) ^ r = tw r := by have := tw_go r; rw [Int.one_mul] at this; exact this
  have e2 : q * tw r / 2 ^ r = q := by rw [e]; exact Int.mul_ediv_cancel _ (by have := tw_pos r; omega)
  simp only [M.ok_ok, M.ok_no, M.oko_some, M.ok_eC, M.ok_eV0, M.ok_eVs, M.ok_e1, M.k1, M.ok_e2, M.k2a, M.k2, M.ok_evs0, M.ok_evs, M.kA, M.ok_eTup, M.ok_eLst, M.ok_eB, M.ok_eCall, M.kTup, M.kLst, M.kB, M.kCall, M.ok_eIf, M.kIfE, M.ok_eAnd, M.kAnd, M.ok_eOr, M.kOr, M.ok_eNot, M.kNotE, M.ok_eChain, M.kCh, M.kCh2, M.ok_tOfE, M.kTo, M.ok_tTru, M.kTru, M.ok_tAnd, M.ok_tOr, M.ok_tNot, M.kTAnd, M.kTOr, M.kTNot, M.ok_tYes, M.ok_pNo, M.ok_pSome, M.kPs, M.ok_eCut, M.kCut, M.kCut1, M.kCut2, M.ok_eDGet, M.kDg, M.kDg2, M.ok_sSeq, M.kSeq_nx, M.kSeq_rt, M.kSeq_bk, M.kSeq_ct, M.ok_sSet, M.kSet, M.ok_sAsg, M.kAsg, M.ok_sPar, M.kPar, M.ok_sDrop, M.kDrop, M.ok_sRet, M.kRet, M.ok_sRetN, M.ok_sNext, M.ok_sBrk, M.ok_sCnt, M.ok_sIf, M.kIf, M.kAug, M.kApp, M.ok_sFor, M.kFor, M.ok_fnM, M.kFn_rt, M.kFn_nx, M.ok_iS, M.kIS_lst, M.kIS_tup, M.ok_iR1, M.kR1, M.ok_iR2, M.kR2, M.ok_eLstRg, M.ok_eTupRg, M.kRg, M.ok_rg1, M.kRg1, M.ok_rg2, M.kRg2, M.kRg2b, M.ok_eM1, M.kM1, M.kM1b, M.ok_eComp, M.kComp, M.kComp1, M.ok_eComp2, M.kCompC, M.kCompB, M.ok_eDisp, M.kDisp, M.ok_sAug1, M.ok_sApp1, M.kApp1, M.kIt_nx, M.kIt_ct, M.kIt_bk, M.kIt_rt, M.v_sub, M.v_addI, M.v_addA, M.v_subA, M.v_lt, M.v_le, M.v_gt, M.v_ge, M.v_int, M.v_lenL, M.v_lenT, M.v_lenZ, M.v_abs, M.v_max, M.v_min, M.v_neg, M.v_ixL, M.v_ixT, M.v_ixZ, M.v_cutL, M.v_cutT, M.v_tupL, M.v_tupT, M.v_lstL, M.v_lstT, M.tr_bl, M.tr_int, M.tr_lst, M.tr_tup, M.tr_non, M.env0_go, M.g_N, M.g_T, M.g_sC, M.g_sN, M.wipe0, M.wipeS, M.ge_0, M.ge_S, List.set_cons_zero, List.set_cons_succ, List.map_cons, List.map_nil, List.cons_append, List.nil_append, List.length_cons, List.length_nil, Nat.reduceAdd, Nat.reduceSub, List.replicate_succ, List.replicate_zero, Option.bind_some, String.reduceBEq, Int.reduceBEq, Bool.or_self, if_true, if_false, Bool.false_eq_true, Bool.not_true, Bool.not_false, true_and, and_true, decide_true, decide_false, Option.map_some, M.is_non_int, M.is_non_bool, M.is_non_str, M.is_non_tuple, M.is_non_list, M.is_non_dict, M.is_bl_int, M.is_bl_bool, M.is_bl_str, M.is_bl_tuple, M.is_bl_list, M.is_bl_dict, M.is_int_int, M.is_int_bool, M.is_int_str, M.is_int_tuple, M.is_int_list, M.is_int_dict, M.is_str_int, M.is_str_bool, M.is_str_str, M.is_str_tuple, M.is_str_list, M.is_str_dict, M.is_tup_int, M.is_tup_bool, M.is_tup_str, M.is_tup_tuple, M.is_tup_list, M.is_tup_dict, M.is_lst_int, M.is_lst_bool, M.is_lst_str, M.is_lst_tuple, M.is_lst_list, M.is_lst_dict, M.isn_non, M.isn_bl, M.isn_int, M.isn_str, M.isn_tup, M.isn_lst, M.str_beq, M.f_non, M.f_bl, M.f_int, M.f_str, M.fe_str, M.fe_int, M.fe_si, M.fe_is, M.in_tup, M.in_lst, M.nin_tup, M.nin_lst, M.at_0, M.at_1, M.at_2, M.at_3, M.eq_int, M.ne_int, M.eq_bl, M.eq_nil, M.eq_str, M.ne_str, List.all_cons, List.all_nil, List.any_cons, List.any_nil, Bool.and_self, Bool.or_false, Bool.false_or, Bool.or_true, Bool.true_or, Bool.and_true, Bool.true_and, Bool.and_false, Bool.false_and, beq_self_eq_true, bne_self_eq_false, M.kCe, M.kCt, M.kForT_nx, M.kForT_ct, M.kForT_bk, M.kForT_rt, M.cut_1, M.all_1, M.all_2, M.any_1, M.any_2, M.sum_1, M.sum_2, M.all_map, M.any_map, M.sum_map, M.ok_eJs, M.ok_jsN, M.ok_jsC, M.kJs, e1, s1, e2]
  rw [cov_iff]
theorem rng_ints (a : Int) (n : Nat) : ∃ ns : List Int, rngD a n = ns.map .int ∧ ns.Nodup ∧ ns.length = n ∧ ∀ x ∈ ns, a ≤ x ∧ x < a + n := by
  refine ⟨(List.range n).map fun i : Nat => a + (i : Int), ?_, ?_, by rw [List.length_map, List.length_range], fun x hx => ?_⟩
  · unfold rngD
    rw [List.map_map]
    rfl
  · exact List.pairwise_map.mpr ((List.nodup_range (n := n)).imp fun h e => h (by omega))
  · obtain ⟨i, hi, rfl⟩ := List.mem_map.mp hx
    have hi := List.mem_range.mp hi
    omega
theorem ps_of {k b : Nat} {ns : List Int} {s : Sto} (hk : 13 < k) (hb : b ≤ 12) (hg : Gd ns 0 b) (hl : ns.length ≤ 4096) : G W k 2 [.tup (ns.map .int), .int b] s = .ok (.tup ((pf b ns 0 0).map p2)) s := by
  obtain ⟨k, rfl⟩ : ∃ j, k = j + 1 := ⟨k - 1, by omega⟩
  show fnM 2 (m_prefixes_of_set W (G W k)) _ _ = _
  have h := pre_of (W := W) b k ns 0 0 b s (by omega) hg (by omega) hb hl
  generalize G W k = g at h ⊢
  apply Ok.eq
  unfold m_prefixes_of_set
  have h : g 3 [.lst (ns.map .int), .int 0, .int 0, .int b] s = .ok (.lst ((pf b ns 0 0).map p2)) s := h
  simp only [M.ok_ok, M.ok_no, M.oko_some, M.ok_eC, M.ok_eV0, M.ok_eVs, M.ok_e1, M.k1, M.ok_e2, M.k2a, M.k2, M.ok_evs0, M.ok_evs, M.kA, M.ok_eTup, M.ok_eLst, M.ok_eB, M.ok_eCall, M.kTup, M.kLst, M.kB, M.kCall, M.ok_eIf, M.kIfE, M.ok_eAnd, M.kAnd, M.ok_eOr, M.kOr, M.ok_eNot, M.kNotE, M.ok_eChain, M.kCh, M.kCh2, M.ok_tOfE, M.kTo, M.ok_tTru, M.kTru, M.ok_tAnd, M.ok_tOr, M.ok_tNot, M.kTAnd, M.kTOr, M.kTNot, M.ok_tYes, M.ok_pNo, M.ok_pSome, M.kPs, M.ok_eCut, M.kCut, M.kCut1, M.kCut2, M.ok_eDGet, M.kDg, M.kDg2, M.ok_sSeq, M.kSeq_nx, M.kSeq_rt, M.kSeq_bk, M.kSeq_ct, M.ok_sSet, M.kSet, M.ok_sAsg, M.kAsg, M.ok_sPar, M.kPar, M.ok_sDrop, M.kDrop, M.ok_sRet, M.kRet, M.ok_sRetN, M.ok_sNext, M.ok_sBrk, M.ok_sCnt, M.ok_sIf, M.kIf, M.kAug, M.kApp, M.ok_sFor, M.kFor, M.ok_fnM, M.kFn_rt, M.kFn_nx, M.ok_iS, M.kIS_lst, M.kIS_tup, M.ok_iR1, M.kR1, M.ok_iR2, M.kR2, M.ok_eLstRg, M.ok_eTupRg, M.kRg, M.ok_rg1, M.kRg1, M.ok_rg2, M.kRg2, M.kRg2b, M.ok_eM1, M.kM1, M.kM1b, M.ok_eComp, M.kComp, M.kComp1, M.ok_eComp2, M.kCompC, M.kCompB, M.ok_eDisp, M.kDisp, M.ok_sAug1, M.ok_sApp1, M.kApp1, M.kIt_nx, M.kIt_ct, M.kIt_bk, M.kIt_rt, M.v_sub, M.v_addI, M.v_addA, M.v_subA, M.v_lt, M.v_le, M.v_gt, M.v_ge, M.v_int, M.v_lenL, M.v_lenT, M.v_lenZ, M.v_abs, M.v_max, M.v_min, M.v_neg, M.v_ixL, M.v_ixT, M.v_ixZ, M.v_cutL, M.v_cutT, M.v_tupL, M.v_tupT, M.v_lstL, M.v_lstT, M.tr_bl, M.tr_int, M.tr_lst, M.tr_tup, M.tr_non, M.env0_go, M.g_N, M.g_T, M.g_sC, M.g_sN, M.wipe0, M.wipeS, M.ge_0, M.ge_S, List.set_cons_zero, List.set_cons_succ, List.map_cons, List.map_nil, List.cons_append, List.nil_append, List.length_cons, List.length_nil, Nat.reduceAdd, Nat.reduceSub, List.replicate_succ, List.replicate_zero, Option.bind_some, String.reduceBEq, Int.reduceBEq, Bool.or_self, if_true, if_false, Bool.false_eq_true, Bool.not_true, Bool.not_false, true_and, and_true, decide_true, decide_false, Option.map_some, M.is_non_int, M.is_non_bool, M.is_non_str, M.is_non_tuple, M.is_non_list, M.is_non_dict, M.is_bl_int, M.is_bl_bool, M.is_bl_str, M.is_bl_tuple, M.is_bl_list, M.is_bl_dict, M.is_int_int, M.is_int_bool, M.is_int_str, M.is_int_tuple, M.is_int_list, M.is_int_dict, M.is_str_int, M.is_str_bool, M.is_str_str, M.is_str_tuple, M.is_str_list, M.is_str_dict, M.is_tup_int, M.is_tup_bool, M.is_tup_str, M.is_tup_tuple, M.is_tup_list, M.is_tup_dict, M.is_lst_int, M.is_lst_bool, M.is_lst_str, M.is_lst_tuple, M.is_lst_list, M.is_lst_dict, M.isn_non, M.isn_bl, M.isn_int, M.isn_str, M.isn_tup, M.isn_lst, M.str_beq, M.f_non, M.f_bl, M.f_int, M.f_str, M.fe_str, M.fe_int, M.fe_si, M.fe_is, M.in_tup, M.in_lst, M.nin_tup, M.nin_lst, M.at_0, M.at_1, M.at_2, M.at_3, M.eq_int, M.ne_int, M.eq_bl, M.eq_nil, M.eq_str, M.ne_str, List.all_cons, List.all_nil, List.any_cons, List.any_nil, Bool.and_self, Bool.or_false, Bool.false_or, Bool.or_true, Bool.true_or, Bool.and_true, Bool.true_and, Bool.and_false, Bool.false_and, beq_self_eq_true, bne_self_eq_false, M.kCe, M.kCt, M.kForT_nx, M.kForT_ct, M.kForT_bk, M.kForT_rt, M.cut_1, M.all_1, M.all_2, M.any_1, M.any_2, M.sum_1, M.sum_2, M.all_map, M.any_map, M.sum_map, M.ok_eJs, M.ok_jsN, M.ok_jsC, M.kJs, h]
theorem po_of {k b : Nat} {x y : Int} {s : Sto} {ns : List Int} (hk : 14 < k) (hb : b ≤ 12) (hx : 0 ≤ x ∧ x < tw b) (hy : 0 ≤ y ∧ y < tw b) (e : rngD x (y + 1 - x).toNat = ns.map .int) (hg : Gd ns 0 b) (hl : ns.length ≤ 4096) : G W k 1 [.int x, .int y, .int b] s = .ok (.tup ((pf b ns 0 0).map p2)) s := by
  obtain ⟨k, rfl⟩ : ∃ j, k = j + 1 := ⟨k - 1, by omega⟩
  show fnM 3 (m_prefixes_of W (G W k)) _ _ = _
  have h := ps_of (W := W) (k := k) (b := b) (ns := ns) (s := s) (by omega) hb hg hl
  generalize G W k = g at h ⊢
  have p1 := tw_le hb
  apply Ok.eq
  unfold m_prefixes_of
  simp only [M.ok_ok, M.ok_no, M.oko_some, M.ok_eC, M.ok_eV0, M.ok_eVs, M.ok_e1, M.k1, M.ok_e2, M.k2a, M.k2, M.ok_evs0, M.ok_evs, M.kA, M.ok_eTup, M.ok_eLst, M.ok_eB, M.ok_eCall, M.kTup, M.kLst, M.kB, M.kCall, M.ok_eIf, M.kIfE, M.ok_eAnd, M.kAnd, M.ok_eOr, M.kOr, M.ok_eNot, M.kNotE, M.ok_eChain, M.kCh, M.kCh2, M.ok_tOfE, M.kTo, M.ok_tTru, M.kTru, M.ok_tAnd, M.ok_tOr, M.ok_tNot, M.kTAnd, M.kTOr, M.kTNot, M.ok_tYes, M.ok_pNo, M.ok_pSome, M.kPs, M.ok_eCut, M.kCut, M.kCut1, M.kCut2, M.ok_eDGet, M.kDg, M.kDg2, M.ok_sSeq, M.kSeq_nx, M.kSeq_rt, M.kSeq_bk, M.kSeq_ct, M.ok_sSet, M.kSet, M.ok_sAsg, M.kAsg, M.ok_sPar, M.kPar, M.ok_sDrop, M.kDrop, M.ok_sRet, M.kRet, M.ok_sRetN, M.ok_sNext, M.ok_sBrk, M.ok_sCnt, M.ok_sIf, M.kIf, M.kAug, M.kApp, M.ok_sFor, M.kFor, M.ok_fnM, M.kFn_rt, M.kFn_nx, M.ok_iS, M.kIS_lst, M.kIS_tup, M.ok_iR1, M.kR1, M.ok_iR2, M.kR2, M.ok_eLstRg, M.ok_eTupRg, M.kRg, M.ok_rg1, M.kRg1, M.ok_rg2, M.kRg2, M.kRg2b, M.ok_eM1, M.kM1, M.kM1b, M.ok_eComp, M.kComp, M.kComp1, M.ok_eComp2, M.kCompC, M.kCompB, M.ok_eDisp, M.kDisp, M.ok_sAug1, M.ok_sApp1, M.kApp1, M.kIt_nx, M.kIt_ct, M.kIt_bk, M.kIt_rt, M.v_sub, M.v_addI, M.v_addA, M.v_subA, M.v_lt, M.v_le, M.v_gt, M.v_ge, M.v_int, M.v_lenL, M.v_lenT, M.v_lenZ, M.v_abs, M.v_max, M.v_min, M.v_neg, M.v_ixL, M.v_ixT, M.v_ixZ, M.v_cutL, M.v_cutT, M.v_tupL, M.v_tupT, M.v_lstL, M.v_lstT, M.tr_bl, M.tr_int, M.tr_lst, M.tr_tup, M.tr_non, M.env0_go, M.g_N, M.g_T, M.g_sC, M.g_sN, M.wipe0, M.wipeS, M.ge_0, M.ge_S, List.set_cons_zero, List.set_cons_succ, List.map_cons, List.map_nil, List.cons_append, List.nil_append, List.length_cons, List.length_nil, Nat.reduceAdd, Nat.reduceSub, List.replicate_succ, List.replicate_zero, Option.bind_some, String.reduceBEq, Int.reduceBEq, Bool.or_self, if_true, if_false, Bool.false_eq_true, Bool.not_true, Bool.not_false, true_and, and_true, decide_true, decide_false, Option.map_some, M.is_non_int, M.is_non_bool, M.is_non_str, M.is_non_tuple, M.is_non_list, M.is_non_dict, M.is_bl_int, M.is_bl_bool, M.is_bl_str, M.is_bl_tuple, M.is_bl_list, M.is_bl_dict, M.is_int_int, M.is_int_bool, M.is_int_str, M.is_int_tuple, M.is_int_list, M.is_int_dict, M.is_str_int, M.is_str_bool, M.is_str_str, M.is_str_tuple, M.is_str_list, M.is_str_dict, M.is_tup_int, M.is_tup_bool, M.is_tup_str, M.is_tup_tuple, M.is_tup_list, M.is_tup_dict, M.is_lst_int, M.is_lst_bool, M.is_lst_str, M.is_lst_tuple, M.is_lst_list, M.is_lst_dict, M.isn_non, M.isn_bl, M.isn_int, M.isn_str, M.isn_tup, M.isn_lst, M.str_beq, M.f_non, M.f_bl, M.f_int, M.f_str, M.fe_str, M.fe_int, M.fe_si, M.fe_is, M.in_tup, M.in_lst, M.nin_tup, M.nin_lst, M.at_0, M.at_1, M.at_2, M.at_3, M.eq_int, M.ne_int, M.eq_bl, M.eq_nil, M.eq_str, M.ne_str, List.all_cons, List.all_nil, List.any_cons, List.any_nil, Bool.and_self, Bool.or_false, Bool.false_or, Bool.or_true, Bool.true_or, Bool.and_true, Bool.true_and, Bool.and_false, Bool.false_and, beq_self_eq_true, bne_self_eq_false, M.kCe, M.kCt, M.kForT_nx, M.kForT_ct, M.kForT_bk, M.kForT_rt, M.cut_1, M.all_1, M.all_2, M.any_1, M.any_2, M.sum_1, M.sum_2, M.all_map, M.any_map, M.sum_map, M.ok_eJs, M.ok_jsN, M.ok_jsC, M.kJs, e, h]
  unfold rgOk
  simp only [decide_eq_true_eq]
  omega
theorem isp_of {k : Nat} {L : List (Int × Int)} {s : Sto} (hk : 0 < k) : G W k 8 [.tup (L.map p2)] s = .ok (.bl true) s := by
  obtain ⟨k, rfl⟩ : ∃ j, k = j + 1 := ⟨k - 1, by omega⟩
  show fnM 2 (m__law_is_prefixes W (G W k)) _ _ = _
  apply Ok.eq
  unfold m__law_is_prefixes
  have nf : ∀ ds : List D, ds.filter (fun _ => false) = [] := fun ds => by simp
  have nn : oNe (.lst []) (.lst []) = some (.bl false) := Enc.ne (Enc.lst Enc.int) (by decide) [] []
  simp only [M.ok_ok, M.ok_no, M.oko_some, M.ok_eC, M.ok_eV0, M.ok_eVs, M.ok_e1, M.k1, M.ok_e2, M.k2a, M.k2, M.ok_evs0, M.ok_evs, M.kA, M.ok_eTup, M.ok_eLst, M.ok_eB, M.ok_eCall, M.kTup, M.kLst, M.kB, M.kCall, M.ok_eIf, M.kIfE, M.ok_eAnd, M.kAnd, M.ok_eOr, M.kOr, M.ok_eNot, M.kNotE, M.ok_eChain, M.kCh, M.kCh2, M.ok_tOfE, M.kTo, M.ok_tTru, M.kTru, M.ok_tAnd, M.ok_tOr, M.ok_tNot, M.kTAnd, M.kTOr, M.kTNot, M.ok_tYes, M.ok_pNo, M.ok_pSome, M.kPs, M.ok_eCut, M.kCut, M.kCut1, M.kCut2, M.ok_eDGet, M.kDg, M.kDg2, M.ok_sSeq, M.kSeq_nx, M.kSeq_rt, M.kSeq_bk, M.kSeq_ct, M.ok_sSet, M.kSet, M.ok_sAsg, M.kAsg, M.ok_sPar, M.kPar, M.ok_sDrop, M.kDrop, M.ok_sRet, M.kRet, M.ok_sRetN, M.ok_sNext, M.ok_sBrk, M.ok_sCnt, M.ok_sIf, M.kIf, M.kAug, M.kApp, M.ok_sFor, M.kFor, M.ok_fnM, M.kFn_rt, M.kFn_nx, M.ok_iS, M.kIS_lst, M.kIS_tup, M.ok_iR1, M.kR1, M.ok_iR2, M.kR2, M.ok_eLstRg, M.ok_eTupRg, M.kRg, M.ok_rg1, M.kRg1, M.ok_rg2, M.kRg2, M.kRg2b, M.ok_eM1, M.kM1, M.kM1b, M.ok_eComp, M.kComp, M.kComp1, M.ok_eComp2, M.kCompC, M.kCompB, M.ok_eDisp, M.kDisp, M.ok_sAug1, M.ok_sApp1, M.kApp1, M.kIt_nx, M.kIt_ct, M.kIt_bk, M.kIt_rt, M.v_sub, M.v_addI, M.v_addA, M.v_subA, M.v_lt, M.v_le, M.v_gt, M.v_ge, M.v_int, M.v_lenL, M.v_lenT, M.v_lenZ, M.v_abs, M.v_max, M.v_min, M.v_neg, M.v_ixL, M.v_ixT, M.v_ixZ, M.v_cutL, M.v_cutT, M.v_tupL, M.v_tupT, M.v_lstL, M.v_lstT, M.tr_bl, M.tr_int, M.tr_lst, M.tr_tup, M.tr_non, M.env0_go, M.g_N, M.g_T, M.g_sC, M.g_sN, M.wipe0, M.wipeS, M.ge_0, M.ge_S, List.set_cons_zero, List.set_cons_succ, List.map_cons, List.map_nil, List.cons_append, List.nil_append, List.length_cons, List.length_nil, Nat.reduceAdd, Nat.reduceSub, List.replicate_succ, List.replicate_zero, Option.bind_some, String.reduceBEq, Int.reduceBEq, Bool.or_self, if_true, if_false, Bool.false_eq_true, Bool.not_true, Bool.not_false, true_and, and_true, decide_true, decide_false, Option.map_some, M.is_non_int, M.is_non_bool, M.is_non_str, M.is_non_tuple, M.is_non_list, M.is_non_dict, M.is_bl_int, M.is_bl_bool, M.is_bl_str, M.is_bl_tuple, M.is_bl_list, M.is_bl_dict, M.is_int_int, M.is_int_bool, M.is_int_str, M.is_int_tuple, M.is_int_list, M.is_int_dict, M.is_str_int, M.is_str_bool, M.is_str_str, M.is_str_tuple, M.is_str_list, M.is_str_dict, M.is_tup_int, M.is_tup_bool, M.is_tup_str, M.is_tup_tuple, M.is_tup_list, M.is_tup_dict, M.is_lst_int, M.is_lst_bool, M.is_lst_str, M.is_lst_tuple, M.is_lst_list, M.is_lst_dict, M.isn_non, M.isn_bl, M.isn_int, M.isn_str, M.isn_tup, M.isn_lst, M.str_beq, M.f_non, M.f_bl, M.f_int, M.f_str, M.fe_str, M.fe_int, M.fe_si, M.fe_is, M.in_tup, M.in_lst, M.nin_tup, M.nin_lst, M.at_0, M.at_1, M.at_2, M.at_3, M.eq_int, M.ne_int, M.eq_bl, M.eq_nil, M.eq_str, M.ne_str, List.all_cons, List.all_nil, List.any_cons, List.any_nil, Bool.and_self, Bool.or_false, Bool.false_or, Bool.or_true, Bool.true_or, Bool.and_true, Bool.true_and, Bool.and_false, Bool.false_and, beq_self_eq_true, bne_self_eq_false, M.kCe, M.kCt, M.kForT_nx, M.kForT_ct, M.kForT_bk, M.kForT_rt, M.cut_1, M.all_1, M.all_2, M.any_1, M.any_2, M.sum_1, M.sum_2, M.all_map, M.any_map, M.sum_map, M.ok_eJs, M.ok_jsN, M.ok_jsC, M.kJs]
  refine Ok.of (comp_f (fun _ => false) id fun d hd => ?_) ?_
  · obtain ⟨q, _, rfl⟩ := List.mem_map.mp hd
    unfold p2
    simp only [M.ok_ok, M.ok_no, M.oko_some, M.ok_eC, M.ok_eV0, M.ok_eVs, M.ok_e1, M.k1, M.ok_e2, M.k2a, M.k2, M.ok_evs0, M.ok_evs, M.kA, M.ok_eTup, M.ok_eLst, M.ok_eB, M.ok_eCall, M.kTup, M.kLst, M.kB, M.kCall, M.ok_eIf, M.kIfE, M.ok_eAnd, M.kAnd, M.ok_eOr, M.kOr, M.ok_eNot, M.kNotE, M.ok_eChain, M.kCh, M.kCh2, M.ok_tOfE, M.kTo, M.ok_tTru, M.kTru, M.ok_tAnd, M.ok_tOr, M.ok_tNot, M.kTAnd, M.kTOr, M.kTNot, M.ok_tYes, M.ok_pNo, M.ok_pSome, M.kPs, M.ok_eCut, M.kCut, M.kCut1, M.kCut2, M.ok_eDGet, M.kDg, M.kDg2, M.ok_sSeq, M.kSeq_nx, M.kSeq_rt, M.kSeq_bk, M.kSeq_ct, M.ok_sSet, M.kSet, M.ok_sAsg, M.kAsg, M.ok_sPar, M.kPar, M.ok_sDrop, M.kDrop, M.ok_sRet, M.kRet, M.ok_sRetN, M.ok_sNext, M.ok_sBrk, M.ok_sCnt, M.ok_sIf, M.kIf, M.kAug, M.kApp, M.ok_sFor, M.kFor, M.ok_fnM, M.kFn_rt, M.kFn_nx, M.ok_iS, M.kIS_lst, M.kIS_tup, M.ok_iR1, M.kR1, M.ok_iR2, M.kR2, M.ok_eLstRg, M.ok_eTupRg, M.kRg, M.ok_rg1, M.kRg1, M.ok_rg2, M.kRg2, M.kRg2b, M.ok_eM1, M.kM1, M.kM1b, M.ok_eComp, M.kComp, M.kComp1, M.ok_eComp2, M.kCompC, M.kCompB, M.ok_eDisp, M.kDisp, M.ok_sAug1, M.ok_sApp1, M.kApp1, M.kIt_nx, M.kIt_ct, M.kIt_bk, M.kIt_rt, M.v_sub, M.v_addI, M.v_addA, M.v_subA, M.v_lt, M.v_le, M.v_gt, M.v_ge, M.v_int, M.v_lenL, M.v_lenT, M.v_lenZ, M.v_abs, M.v_max, M.v_min, M.v_neg, M.v_ixL, M.v_ixT, M.v_ixZ, M.v_cutL, M.v_cutT, M.v_tupL, M.v_tupT, M.v_lstL, M.v_lstT, M.tr_bl, M.tr_int, M.tr_lst, M.tr_tup, M.tr_non, M.env0_go, M.g_N, M.g_T, M.g_sC, M.g_sN, M.wipe0, M.wipeS, M.ge_0, M.ge_S, List.set_cons_zero, List.set_cons_succ, List.map_cons, List.map_nil, List.cons_append, List.nil_append, List.length_cons, List.length_nil, Nat.reduceAdd, Nat.reduceSub, List.replicate_succ, List.replicate_zero, Option.bind_some, String.reduceBEq, Int.reduceBEq, Bool.or_self, if_true, if_false, Bool.false_eq_true, Bool.not_true, Bool.not_false, true_and, and_true, decide_true, decide_false, Option.map_some, M.is_non_int, M.is_non_bool, M.is_non_str, M.is_non_tuple, M.is_non_list, M.is_non_dict, M.is_bl_int, M.is_bl_bool, M.is_bl_str, M.is_bl_tuple, M.is_bl_list, M.is_bl_dict, M.is_int_int, M.is_int_bool, M.is_int_str, M.is_int_tuple, M.is_int_list, M.is_int_dict, M.is_str_int, M.is_str_bool, M.is_str_str, M.is_str_tuple, M.is_str_list, M.is_str_dict, M.is_tup_int, M.is_tup_bool, M.is_tup_str, M.is_tup_tuple, M.is_tup_list, M.is_tup_dict, M.is_lst_int, M.is_lst_bool, M.is_lst_str, M.is_lst_tuple, M.is_lst_list, M.is_lst_dict, M.isn_non, M.isn_bl, M.isn_int, M.isn_str, M.isn_tup, M.isn_lst, M.str_beq, M.f_non, M.f_bl, M.f_int, M.f_str, M.fe_str, M.fe_int, M.fe_si, M.fe_is, M.in_tup, M.in_lst, M.nin_tup, M.nin_lst, M.at_0, M.at_1, M.at_2, M.at_3, M.eq_int, M.ne_int, M.eq_bl, M.eq_nil, M.eq_str, M.ne_str, List.all_cons, List.all_nil, List.any_cons, List.any_nil, Bool.and_self, Bool.or_false, Bool.false_or, Bool.or_true, Bool.true_or, Bool.and_true, Bool.true_and, Bool.and_false, Bool.false_and, beq_self_eq_true, bne_self_eq_false, M.kCe, M.kCt, M.kForT_nx, M.kForT_ct, M.kForT_bk, M.kForT_rt, M.cut_1, M.all_1, M.all_2, M.any_1, M.any_2, M.sum_1, M.sum_2, M.all_map, M.any_map, M.sum_map, M.ok_eJs, M.ok_jsN, M.ok_jsC, M.kJs]
    simp
  rw [nf, List.map_nil]
  simp only [M.ok_ok, M.ok_no, M.oko_some, M.ok_eC, M.ok_eV0, M.ok_eVs, M.ok_e1, M.k1, M.ok_e2, M.k2a, M.k2, M.ok_evs0, M.ok_evs, M.kA, M.ok_eTup, M.ok_eLst, M.ok_eB, M.ok_eCall, M.kTup, M.kLst, M.kB, M.kCall, M.ok_eIf, M.kIfE, M.ok_eAnd, M.kAnd, M.ok_eOr, M.kOr, M.ok_eNot, M.kNotE, M.ok_eChain, M.kCh, M.kCh2, M.ok_tOfE, M.kTo, M.ok_tTru, M.kTru, M.ok_tAnd, M.ok_tOr, M.ok_tNot, M.kTAnd, M.kTOr, M.kTNot, M.ok_tYes, M.ok_pNo, M.ok_pSome, M.kPs, M.ok_eCut, M.kCut, M.kCut1, M.kCut2, M.ok_eDGet, M.kDg, M.kDg2, M.ok_sSeq, M.kSeq_nx, M.kSeq_rt, M.kSeq_bk, M.kSeq_ct, M.ok_sSet, M.kSet, M.ok_sAsg, M.kAsg, M.ok_sPar, M.kPar, M.ok_sDrop, M.kDrop, M.ok_sRet, M.kRet, M.ok_sRetN, M.ok_sNext, M.ok_sBrk, M.ok_sCnt, M.ok_sIf, M.kIf, M.kAug, M.kApp, M.ok_sFor, M.kFor, M.ok_fnM, M.kFn_rt, M.kFn_nx, M.ok_iS, M.kIS_lst, M.kIS_tup, M.ok_iR1, M.kR1, M.ok_iR2, M.kR2, M.ok_eLstRg, M.ok_eTupRg, M.kRg, M.ok_rg1, M.kRg1, M.ok_rg2, M.kRg2, M.kRg2b, M.ok_eM1, M.kM1, M.kM1b, M.ok_eComp, M.kComp, M.kComp1, M.ok_eComp2, M.kCompC, M.kCompB, M.ok_eDisp, M.kDisp, M.ok_sAug1, M.ok_sApp1, M.kApp1, M.kIt_nx, M.kIt_ct, M.kIt_bk, M.kIt_rt, M.v_sub, M.v_addI, M.v_addA, M.v_subA, M.v_lt, M.v_le, M.v_gt, M.v_ge, M.v_int, M.v_lenL, M.v_lenT, M.v_lenZ, M.v_abs, M.v_max, M.v_min, M.v_neg, M.v_ixL, M.v_ixT, M.v_ixZ, M.v_cutL, M.v_cutT, M.v_tupL, M.v_tupT, M.v_lstL, M.v_lstT, M.tr_bl, M.tr_int, M.tr_lst, M.tr_tup, M.tr_non, M.env0_go, M.g_N, M.g_T, M.g_sC, M.g_sN, M.wipe0, M.wipeS, M.ge_0, M.ge_S, List.set_cons_zero, List.set_cons_succ, List.map_cons, List.map_nil, List.cons_append, List.nil_append, List.length_cons, List.length_nil, Nat.reduceAdd, Nat.reduceSub, List.replicate_succ, List.replicate_zero, Option.bind_some, String.reduceBEq, Int.reduceBEq, Bool.or_self, if_true, if_false, Bool.false_eq_true, Bool.not_true, Bool.not_false, true_and, and_true, decide_true, decide_false, Option.map_some, M.is_non_int, M.is_non_bool, M.is_non_str, M.is_non_tuple, M.is_non_list, M.is_non_dict, M.is_bl_int, M.is_bl_bool, M.is_bl_str, M.is_bl_tuple, M.is_bl_list, M.is_bl_dict, M.is_int_int, M.is_int_bool, M.is_int_str, M.is_int_tuple, M.is_int_list, M.is_int_dict, M.is_str_int, M.is_str_bool, M.is_str_str, M.is_str_tuple, M.is_str_list, M.is_str_dict, M.is_tup_int, M.is_tup_bool, M.is_tup_str, M.is_tup_tuple, M.is_tup_list, M.is_tup_dict, M.is_lst_int, M.is_lst_bool, M.is_lst_str, M.is_lst_tuple, M.is_lst_list, M.is_lst_dict, M.isn_non, M.isn_bl, M.isn_int, M.isn_str, M.isn_tup, M.isn_lst, M.str_beq, M.f_non, M.f_bl, M.f_int, M.f_str, M.fe_str, M.fe_int, M.fe_si, M.fe_is, M.in_tup, M.in_lst, M.nin_tup, M.nin_lst, M.at_0, M.at_1, M.at_2, M.at_3, M.eq_int, M.ne_int, M.eq_bl, M.eq_nil, M.eq_str, M.ne_str, List.all_cons, List.all_nil, List.any_cons, List.any_nil, Bool.and_self, Bool.or_false, Bool.false_or, Bool.or_true, Bool.true_or, Bool.and_true, Bool.true_and, Bool.and_false, Bool.false_and, beq_self_eq_true, bne_self_eq_false, M.kCe, M.kCt, M.kForT_nx, M.kForT_ct, M.kForT_bk, M.kForT_rt, M.cut_1, M.all_1, M.all_2, M.any_1, M.any_2, M.sum_1, M.sum_2, M.all_map, M.any_map, M.sum_map, M.ok_eJs, M.ok_jsN, M.ok_jsC, M.kJs, nn]
  refine Ok.of (comp_f (fun _ => false) id fun d hd => ?_) ?_
  · obtain ⟨q, _, rfl⟩ := List.mem_map.mp hd
    unfold p2
    simp only [M.ok_ok, M.ok_no, M.oko_some, M.ok_eC, M.ok_eV0, M.ok_eVs, M.ok_e1, M.k1, M.ok_e2, M.k2a, M.k2, M.ok_evs0, M.ok_evs, M.kA, M.ok_eTup, M.ok_eLst, M.ok_eB, M.ok_eCall, M.kTup, M.kLst, M.kB, M.kCall, M.ok_eIf, M.kIfE, M.ok_eAnd, M.kAnd, M.ok_eOr, M.kOr, M.ok_eNot, M.kNotE, M.ok_eChain, M.kCh, M.kCh2, M.ok_tOfE, M.kTo, M.ok_tTru, M.kTru, M.ok_tAnd, M.ok_tOr, M.ok_tNot, M.kTAnd, M.kTOr, M.kTNot, M.ok_tYes, M.ok_pNo, M.ok_pSome, M.kPs, M.ok_eCut, M.kCut, M.kCut1, M.kCut2, M.ok_eDGet, M.kDg, M.kDg2, M.ok_sSeq, M.kSeq_nx, M.kSeq_rt, M.kSeq_bk, M.kSeq_ct, M.ok_sSet, M.kSet, M.ok_sAsg, M.kAsg, M.ok_sPar, M.kPar, M.ok_sDrop, M.kDrop, M.ok_sRet, M.kRet, M.ok_sRetN, M.ok_sNext, M.ok_sBrk, M.ok_sCnt, M.ok_sIf, M.kIf, M.kAug, M.kApp, M.ok_sFor, M.kFor, M.ok_fnM, M.kFn_rt, M.kFn_nx, M.ok_iS, M.kIS_lst, M.kIS_tup, M.ok_iR1, M.kR1, M.ok_iR2, M.kR2, M.ok_eLstRg, M.ok_eTupRg, M.kRg, M.ok_rg1, M.kRg1, M.ok_rg2, M.kRg2, M.kRg2b, M.ok_eM1, M.kM1, M.kM1b, M.ok_eComp, M.kComp, M.kComp1, M.ok_eComp2, M.kCompC, M.kCompB, M.ok_eDisp, M.kDisp, M.ok_sAug1, M.ok_sApp1, M.kApp1, M.kIt_nx, M.kIt_ct, M.kIt_bk, M.kIt_rt, M.v_sub, M.v_addI, M.v_addA, M.v_subA, M.v_lt, M.v_le, M.v_gt, M.v_ge, M.v_int, M.v_lenL, M.v_lenT, M.v_lenZ, M.v_abs, M.v_max, M.v_min, M.v_neg, M.v_ixL, M.v_ixT, M.v_ixZ, M.v_cutL, M.v_cutT, M.v_tupL, M.v_tupT, M.v_lstL, M.v_lstT, M.tr_bl, M.tr_int, M.tr_lst, M.tr_tup, M.tr_non, M.env0_go, M.g_N, M.g_T, M.g_sC, M.g_sN, M.wipe0, M.wipeS, M.ge_0, M.ge_S, List.set_cons_zero, List.set_cons_succ, List.map_cons, List.map_nil, List.cons_append, List.nil_append, List.length_cons, List.length_nil, Nat.reduceAdd, Nat.reduceSub, List.replicate_succ, List.replicate_zero, Option.bind_some, String.reduceBEq, Int.reduceBEq, Bool.or_self, if_true, if_false, Bool.false_eq_true, Bool.not_true, Bool.not_false, true_and, and_true, decide_true, decide_false, Option.map_some, M.is_non_int, M.is_non_bool, M.is_non_str, M.is_non_tuple, M.is_non_list, M.is_non_dict, M.is_bl_int, M.is_bl_bool, M.is_bl_str, M.is_bl_tuple, M.is_bl_list, M.is_bl_dict, M.is_int_int, M.is_int_bool, M.is_int_str, M.is_int_tuple, M.is_int_list, M.is_int_dict, M.is_str_int, M.is_str_bool, M.is_str_str, M.is_str_tuple, M.is_str_list, M.is_str_dict, M.is_tup_int, M.is_tup_bool, M.is_tup_str, M.is_tup_tuple, M.is_tup_list, M.is_tup_dict, M.is_lst_int, M.is_lst_bool, M.is_lst_str, M.is_lst_tuple, M.is_lst_list, M.is_lst_dict, M.isn_non, M.isn_bl, M.isn_int, M.isn_str, M.isn_tup, M.isn_lst, M.str_beq, M.f_non, M.f_bl, M.f_int, M.f_str, M.fe_str, M.fe_int, M.fe_si, M.fe_is, M.in_tup, M.in_lst, M.nin_tup, M.nin_lst, M.at_0, M.at_1, M.at_2, M.at_3, M.eq_int, M.ne_int, M.eq_bl, M.eq_nil, M.eq_str, M.ne_str, List.all_cons, List.all_nil, List.any_cons, List.any_nil, Bool.and_self, Bool.or_false, Bool.false_or, Bool.or_true, Bool.true_or, Bool.and_true, Bool.true_and, Bool.and_false, Bool.false_and, beq_self_eq_true, bne_self_eq_false, M.kCe, M.kCt, M.kForT_nx, M.kForT_ct, M.kForT_bk, M.kForT_rt, M.cut_1, M.all_1, M.all_2, M.any_1, M.any_2, M.sum_1, M.sum_2, M.all_map, M.any_map, M.sum_map, M.ok_eJs, M.ok_jsN, M.ok_jsC, M.kJs]
    simp
  rw [nf, List.map_nil]
  simp only [M.ok_ok, M.ok_no, M.oko_some, M.ok_eC, M.ok_eV0, M.ok_eVs, M.ok_e1, M.k1, M.ok_e2, M.k2a, M.k2, M.ok_evs0, M.ok_evs, M.kA, M.ok_eTup, M.ok_eLst, M.ok_eB, M.ok_eCall, M.kTup, M.kLst, M.kB, M.kCall, M.ok_eIf, M.kIfE, M.ok_eAnd, M.kAnd, M.ok_eOr, M.kOr, M.ok_eNot, M.kNotE, M.ok_eChain, M.kCh, M.kCh2, M.ok_tOfE, M.kTo, M.ok_tTru, M.kTru, M.ok_tAnd, M.ok_tOr, M.ok_tNot, M.kTAnd, M.kTOr, M.kTNot, M.ok_tYes, M.ok_pNo, M.ok_pSome, M.kPs, M.ok_eCut, M.kCut, M.kCut1, M.kCut2, M.ok_eDGet, M.kDg, M.kDg2, M.ok_sSeq, M.kSeq_nx, M.kSeq_rt, M.kSeq_bk, M.kSeq_ct, M.ok_sSet, M.kSet, M.ok_sAsg, M.kAsg, M.ok_sPar, M.kPar, M.ok_sDrop, M.kDrop, M.ok_sRet, M.kRet, M.ok_sRetN, M.ok_sNext, M.ok_sBrk, M.ok_sCnt, M.ok_sIf, M.kIf, M.kAug, M.kApp, M.ok_sFor, M.kFor, M.ok_fnM, M.kFn_rt, M.kFn_nx, M.ok_iS, M.kIS_lst, M.kIS_tup, M.ok_iR1, M.kR1, M.ok_iR2, M.kR2, M.ok_eLstRg, M.ok_eTupRg, M.kRg, M.ok_rg1, M.kRg1, M.ok_rg2, M.kRg2, M.kRg2b, M.ok_eM1, M.kM1, M.kM1b, M.ok_eComp, M.kComp, M.kComp1, M.ok_eComp2, M.kCompC, M.kCompB, M.ok_eDisp, M.kDisp, M.ok_sAug1, M.ok_sApp1, M.kApp1, M.kIt_nx, M.kIt_ct, M.kIt_bk, M.kIt_rt, M.v_sub, M.v_addI, M.v_addA, M.v_subA, M.v_lt, M.v_le, M.v_gt, M.v_ge, M.v_int, M.v_lenL, M.v_lenT, M.v_lenZ, M.v_abs, M.v_max, M.v_min, M.v_neg, M.v_ixL, M.v_ixT, M.v_ixZ, M.v_cutL, M.v_cutT, M.v_tupL, M.v_tupT, M.v_lstL, M.v_lstT, M.tr_bl, M.tr_int, M.tr_lst, M.tr_tup, M.tr_non, M.env0_go, M.g_N, M.g_T, M.g_sC, M.g_sN, M.wipe0, M.wipeS, M.ge_0, M.ge_S, List.set_cons_zero, List.set_cons_succ, List.map_cons, List.map_nil, List.cons_append, List.nil_append, List.length_cons, List.length_nil, Nat.reduceAdd, Nat.reduceSub, List.replicate_succ, List.replicate_zero, Option.bind_some, String.reduceBEq, Int.reduceBEq, Bool.or_self, if_true, if_false, Bool.false_eq_true, Bool.not_true, Bool.not_false, true_and, and_true, decide_true, decide_false, Option.map_some, M.is_non_int, M.is_non_bool, M.is_non_str, M.is_non_tuple, M.is_non_list, M.is_non_dict, M.is_bl_int, M.is_bl_bool, M.is_bl_str, M.is_bl_tuple, M.is_bl_list, M.is_bl_dict, M.is_int_int, M.is_int_bool, M.is_int_str, M.is_int_tuple, M.is_int_list, M.is_int_dict, M.is_str_int, M.is_str_bool, M.is_str_str, M.is_str_tuple, M.is_str_list, M.is_str_dict, M.is_tup_int, M.is_tup_bool, M.is_tup_str, M.is_tup_tuple, M.is_tup_list, M.is_tup_dict, M.is_lst_int, M.is_lst_bool, M.is_lst_str, M.is_lst_tuple, M.is_lst_list, M.is_lst_dict, M.isn_non, M.isn_bl, M.isn_int, M.isn_str, M.isn_tup, M.isn_lst, M.str_beq, M.f_non, M.f_bl, M.f_int, M.f_str, M.fe_str, M.fe_int, M.fe_si, M.fe_is, M.in_tup, M.in_lst, M.nin_tup, M.nin_lst, M.at_0, M.at_1, M.at_2, M.at_3, M.eq_int, M.ne_int, M.eq_bl, M.eq_nil, M.eq_str, M.ne_str, List.all_cons, List.all_nil, List.any_cons, List.any_nil, Bool.and_self, Bool.or_false, Bool.false_or, Bool.or_true, Bool.true_or, Bool.and_true, Bool.true_and, Bool.and_false, Bool.false_and, beq_self_eq_true, bne_self_eq_false, M.kCe, M.kCt, M.kForT_nx, M.kForT_ct, M.kForT_bk, M.kForT_rt, M.cut_1, M.all_1, M.all_2, M.any_1, M.any_2, M.sum_1, M.sum_2, M.all_map, M.any_map, M.sum_map, M.ok_eJs, M.ok_jsN, M.ok_jsC, M.kJs]
/-! ### some numbers -/
theorem v_sset {ks : List Int} (h : ks.length + 1 < 4096) : oSSet (.lst (ks.map .int)) = some (.lst ((isort (dedup ks)).map .int)) := by
  unfold oSSet
  simp only [M.ints_map]
  rw [if_pos (show ks.length + 1 < scanBound from h)]
theorem ded_len : ∀ ks : List Int, (dedup ks).length ≤ ks.length
  | [] => Nat.le_refl _
  | j :: ks => by
    unfold dedup
    have := ded_len ks
    split
    · exact Nat.le_succ_of_le this
    · exact Nat.succ_le_succ this
theorem gd_set {ks : List Int} {b : Nat} (h : ∀ x ∈ ks, 0 ≤ x ∧ x < tw b) : Gd (isort (dedup ks)) 0 b where
  nd := (List.mergeSort_perm _ _).nodup_iff.mpr (dedup_nodup ks)
  bd := fun n hn => by
    have := h n (mem_dedup.mp (isort_mem.mp hn))
    omega
theorem drawn_ok {g : Fns} {xs : List Int} {b m a : Nat} {t : Sto} {o1 o3 o4 o5 o6 o7 o8 o9 : Option D} (h1 : Hnx (g 5) xs) :
    Ok (compL (gN 8) tYesM (eCall (g 5) [(eV 0), (eV 2)]) [some (.ref 0), o1, some (.int (tw b)), o3, o4, o5, o6, o7, o8, o9] (rngD 0 m) (Sd xs a t)) fun ds s => ∃ (a' : Nat) (ks : List Int), ds = ks.map .int ∧ (∀ x ∈ ks, 0 ≤ x ∧ x < tw b) ∧ ks.length = m ∧ s = Sd xs a' t := by
  refine comp_rngI (fun j ds s => ∃ (a' : Nat) (ks : List Int), ds = ks.map .int ∧ (∀ x ∈ ks, 0 ≤ x ∧ x < tw b) ∧ ks.length = j ∧ s = Sd xs a' t) ⟨a, [], rfl, fun _ h => absurd h List.not_mem_nil, rfl, rfl⟩ ?_
  rintro i ys s hi ⟨a', ks, rfl, hk, hl, rfl⟩
  obtain ⟨n, q, e⟩ := nx_nat h1 a' t (2 ^ b) (Nat.two_pow_pos b)
  have e : g 5 [.ref 0, .int (tw b)] (Sd xs a' t) = .ok (.int n) (Sd xs (a' + 1) t) := e
  simp only [M.ok_ok, M.ok_no, M.oko_some, M.ok_eC, M.ok_eV0, M.ok_eVs, M.ok_e1, M.k1, M.ok_e2, M.k2a, M.k2, M.ok_evs0, M.ok_evs, M.kA, M.ok_eTup, M.ok_eLst, M.ok_eB, M.ok_eCall, M.kTup, M.kLst, M.kB, M.kCall, M.ok_eIf, M.kIfE, M.ok_eAnd, M.kAnd, M.ok_eOr, M.kOr, M.ok_eNot, M.kNotE, M.ok_eChain, M.kCh, M.kCh2, M.ok_tOfE, M.kTo, M.ok_tTru, M.kTru, M.ok_tAnd, M.ok_tOr, M.ok_tNot, M.kTAnd, M.kTOr, M.kTNot, M.ok_tYes, M.ok_pNo, M.ok_pSome, M.kPs, M.ok_eCut, M.kCut, M.kCut1, M.kCut2, M.ok_eDGet, M.kDg, M.kDg2, M.ok_sSeq, M.kSeq_nx, M.kSeq_rt, M.kSeq_bk, M.kSeq_ct, M.ok_sSet, M.kSet, M.ok_sAsg, M.kAsg, M.ok_sPar, M.kPar, M.ok_sDrop, M.kDrop, M.ok_sRet, M.kRet, M.ok_sRetN, M.ok_sNext, M.ok_sBrk, M.ok_sCnt, M.ok_sIf, M.kIf, M.kAug, M.kApp, M.ok_sFor, M.kFor, M.ok_fnM, M.kFn_rt, M.kFn_nx, M.ok_iS, M.kIS_lst, M.kIS_tup, M.ok_iR1, M.kR1, M.ok_iR2, M.kR2, M.ok_eLstRg, M.ok_eTupRg, M.kRg, M.ok_rg1, M.kRg1, M.ok_rg2, M.kRg2, M.kRg2b, M.ok_eM1, M.kM1, M.kM1b, M.ok_eComp, M.kComp, M.kComp1, M.ok_eComp2, M.kCompC, M.kCompB, M.ok_eDisp, M.kDisp, M.ok_sAug1, M.ok_sApp1, M.kApp1, M.kIt_nx, M.kIt_ct, M.kIt_bk, M.kIt_rt, M.v_sub, M.v_addI, M.v_addA, M.v_subA, M.v_lt, M.v_le, M.v_gt, M.v_ge, M.v_int, M.v_lenL, M.v_lenT, M.v_lenZ, M.v_abs, M.v_max, M.v_min, M.v_neg, M.v_ixL, M.v_ixT, M.v_ixZ, M.v_cutL, M.v_cutT, M.v_tupL, M.v_tupT, M.v_lstL, M.v_lstT, M.tr_bl, M.tr_int, M.tr_lst, M.tr_tup, M.tr_non, M.env0_go, M.g_N, M.g_T, M.g_sC, M.g_sN, M.wipe0, M.wipeS, M.ge_0, M.ge_S, List.set_cons_zero, List.set_cons_succ, List.map_cons, List.map_nil, List.cons_append, List.nil_append, List.length_cons, List.length_nil, Nat.reduceAdd, Nat.reduceSub, List.replicate_succ, List.replicate_zero, Option.bind_some, String.reduceBEq, Int.reduceBEq, Bool.or_self, if_true, if_false, Bool.false_eq_true, Bool.not_true, Bool.not_false, true_and, and_true, decide_true, decide_false, Option.map_some, M.is_non_int, M.is_non_bool, M.is_non_str, M.is_non_tuple, M.is_non_list, M.is_non_dict, M.is_bl_int, M.is_bl_bool, M.is_bl_str, M.is_bl_tuple, M.is_bl_list, M.is_bl_dict, M.is_int_int, M.is_int_bool, M.is_int_str, M.is_int_tuple, M.is_int_list, M.is_int_dict, M.is_str_int, M.is_str_bool, M.is_str_str, M.is_str_tuple, M.is_str_list, M.is_str_dict, M.is_tup_int, M.is_tup_bool, M.is_tup_str, M.is_tup_tuple, M.is_tup_list, M.is_tup_dict, M.is_lst_int, M.is_lst_bool, M.is_lst_str, M.is_lst_tuple, M.is_lst_list, M.is_lst_dict, M.isn_non, M.isn_bl, M.isn_int, M.isn_str, M.isn_tup, M.isn_lst, M.str_beq, M.f_non, M.f_bl, M.f_int, M.f_str, M.fe_str, M.fe_int, M.fe_si, M.fe_is, M.in_tup, M.in_lst, M.nin_tup, M.nin_lst, M.at_0, M.at_1, M.at_2, M.at_3, M.eq_int, M.ne_int, M.eq_bl, M.eq_nil, M.eq_str, M.ne_str, List.all_cons, List.all_nil, List.any_cons, List.any_nil, Bool.and_self, Bool.or_false, Bool.false_or, Bool.or_true, Bool.true_or, Bool.and_true, Bool.true_and, Bool.and_false, Bool.false_and, beq_self_eq_true, bne_self_eq_false, M.kCe, M.kCt, M.kForT_nx, M.kForT_ct, M.kForT_bk, M.kForT_rt, M.cut_1, M.all_1, M.all_2, M.any_1, M.any_2, M.sum_1, M.sum_2, M.all_map, M.any_map, M.sum_map, M.ok_eJs, M.ok_jsN, M.ok_jsC, M.kJs, e, map_snoc]
  refine ⟨a' + 1, ks ++ [(n : Int)], rfl, fun x hx => ?_, by rw [List.length_append, hl]; rfl, rfl⟩
  rcases List.mem_append.mp hx with hx | hx
  · exact hk x hx
  · rw [List.mem_singleton.mp hx]
    unfold tw
    omega
def neE (h : Int) (w : Bool) (d : D) : Bool := match d with
  | .int n => !(n == h) || w
  | _ => false
theorem some_of {k b a : Nat} {xs : List Int} {t : Sto} (hk : 2 < k) (hb : b ≤ 12) (h9 : In9 xs) : ∃ (a' : Nat) (ns : List Int), Gd ns 0 b ∧ ns.length ≤ 4096 ∧ G W k 9 [.ref 0, .int b] (Sd xs a t) = .ok (.lst (ns.map .int)) (Sd xs a' t) := by
  obtain ⟨k, rfl⟩ : ∃ j, k = j + 1 := ⟨k - 1, by omega⟩
  suffices h : Ok (fnM 10 (m__law_some W (G W k)) [.ref 0, .int b] (Sd xs a t)) fun v s => ∃ (a' : Nat) (ns : List Int), Gd ns 0 b ∧ ns.length ≤ 4096 ∧ v = .lst (ns.map .int) ∧ s = Sd xs a' t by
    obtain ⟨v, s, e, a', ns, hg, hl, rfl, rfl⟩ := h.get
    exact ⟨a', ns, hg, hl, e⟩
  have h1 : Hnx (G W k 5) xs := hnx (by omega)
  have h2 : Hpk (G W k 6) xs := hpk (by omega)
  generalize G W k = g at h1 h2 ⊢
  have sl : sizeLine = 16777216 := rfl
  have p0 := tw_pos b
  have p1 := tw_le hb
  have s1 := v_shl (i := 1) (j := ((b : Nat) : Int)) (by decide) (by decide) (by omega) (by omega)
  rw [Int.toNat_natCast, tw_go] at s1
  obtain ⟨n1, q1, f1⟩ := nx_nat h1 a t 4 (by decide)
  have f1 : g 5 [.ref 0, .int 4] (Sd xs a t) = .ok (.int n1) (Sd xs (a + 1) t) := f1
  unfold m__law_some
  by_cases c : ((n1 : Int) == 0) = true
  · obtain ⟨n2, q2, f2⟩ := nx_nat h1 (a + 1) t 12 (by decide)
    have f2 : g 5 [.ref 0, .int 12] (Sd xs (a + 1) t) = .ok (.int n2) (Sd xs (a + 1 + 1) t) := f2
    simp only [M.ok_ok, M.ok_no, M.oko_some, M.ok_eC, M.ok_eV0, M.ok_eVs, M.ok_e1, M.k1, M.ok_e2, M.k2a, M.k2, M.ok_evs0, M.ok_evs, M.kA, M.ok_eTup, M.ok_eLst, M.ok_eB, M.ok_eCall, M.kTup, M.kLst, M.kB, M.kCall, M.ok_eIf, M.kIfE, M.ok_eAnd, M.kAnd, M.ok_eOr, M.kOr, M.ok_eNot, M.kNotE, M.ok_eChain, M.kCh, M.kCh2, M.ok_tOfE, M.kTo, M.ok_tTru, M.kTru, M.ok_tAnd, M.ok_tOr, M.ok_tNot, M.kTAnd, M.kTOr, M.kTNot, M.ok_tYes, M.ok_pNo, M.ok_pSome, M.kPs, M.ok_eCut, M.kCut, M.kCut1, M.kCut2, M.ok_eDGet, M.kDg, M.kDg2, M.ok_sSeq, M.kSeq_nx, M.kSeq_rt, M.kSeq_bk, M.kSeq_ct, M.ok_sSet, M.kSet, M.ok_sAsg, M.kAsg, M.ok_sPar, M.kPar, M.ok_sDrop, M.kDrop, M.ok_sRet, M.kRet, M.ok_sRetN, M.ok_sNext, M.ok_sBrk, M.ok_sCnt, M.ok_sIf, M.kIf, M.kAug, M.kApp, M.ok_sFor, M.kFor, M.ok_fnM, M.kFn_rt, M.kFn_nx, M.ok_iS, M.kIS_lst, M.kIS_tup, M.ok_iR1, M.kR1, M.ok_iR2, M.kR2, M.ok_eLstRg, M.ok_eTupRg, M.kRg, M.ok_rg1, M.kRg1, M.ok_rg2, M.kRg2, M.kRg2b, M.ok_eM1, M.kM1, M.kM1b, M.ok_eComp, M.kComp, M.kComp1, M.ok_eComp2, M.kCompC, M.kCompB, M.ok_eDisp, M.kDisp, M.ok_sAug1, M.ok_sApp1, M.kApp1, M.kIt_nx, M.kIt_ct, M.kIt_bk, M.kIt_rt, M.v_sub, M.v_addI, M.v_addA, M.v_subA, M.v_lt, M.v_le, M.v_gt, M.v_ge, M.v_int, M.v_lenL, M.v_lenT, M.v_lenZ, M.v_abs, M.v_max, M.v_min, M.v_neg, M.v_ixL, M.v_ixT, M.v_ixZ, M.v_cutL, M.v_cutT, M.v_tupL, M.v_tupT, M.v_lstL, M.v_lstT, M.tr_bl, M.tr_int, M.tr_lst, M.tr_tup, M.tr_non, M.env0_go, M.g_N, M.g_T, M.g_sC, M.g_sN, M.wipe0, M.wipeS, M.ge_0, M.ge_S, List.set_cons_zero, List.set_cons_succ, List.map_cons, List.map_nil, List.cons_append, List.nil_append, List.length_cons, List.length_nil, Nat.reduceAdd, Nat.reduceSub, List.replicate_succ, List.replicate_zero, Option.bind_some, String.reduceBEq, Int.reduceBEq, Bool.or_self, if_true, if_false, Bool.false_eq_true, Bool.not_true, Bool.not_false, true_and, and_true, decide_true, decide_false, Option.map_some, M.is_non_int, M.is_non_bool, M.is_non_str, M.is_non_tuple, M.is_non_list, M.is_non_dict, M.is_bl_int, M.is_bl_bool, M.is_bl_str, M.is_bl_tuple, M.is_bl_list, M.is_bl_dict, M.is_int_int, M.is_int_bool, M.is_int_str, M.is_int_tuple, M.is_int_list, M.is_int_dict, M.is_str_int, M.is_str_bool, M.is_str_str, M.is_str_tuple, M.is_str_list, M.is_str_dict, M.is_tup_int, M.is_tup_bool, M.is_tup_str, M.is_tup_tuple, M.is_tup_list, M.is_tup_dict, M.is_lst_int, M.is_lst_bool, M.is_lst_str, M.is_lst_tuple, M.is_lst_list, M.is_lst_dict, M.isn_non, M.isn_bl, M.isn_int, M.isn_str, M.isn_tup, M.isn_lst, M.str_beq, M.f_non, M.f_bl, M.f_int, M.f_str, M.fe_str, M.fe_int, M.fe_si, M.fe_is, M.in_tup, M.in_lst, M.nin_tup, M.nin_lst, M.at_0, M.at_1, M.at_2, M.at_3, M.eq_int, M.ne_int, M.eq_bl, M.eq_nil, M.eq_str, M.ne_str, List.all_cons, List.all_nil, List.any_cons, List.any_nil, Bool.and_self, Bool.or_false, Bool.false_or, Bool.or_true, Bool.true_or, Bool.and_true, Bool.true_and, Bool.and_false, Bool.false_and, beq_self_eq_true, bne_self_eq_false, M.kCe, M.kCt, M.kForT_nx, M.kForT_ct, M.kForT_bk, M.kForT_rt, M.cut_1, M.all_1, M.all_2, M.any_1, M.any_2, M.sum_1, M.sum_2, M.all_map, M.any_map, M.sum_map, M.ok_eJs, M.ok_jsN, M.ok_jsC, M.kJs, s1, f1, c, f2]
    refine ⟨by omega, ?_⟩
    rw [Int.toNat_natCast]
    refine Ok.mono (drawn_ok h1) ?_
    rintro ds s ⟨a', ks, rfl, hk, hl, rfl⟩
    simp only [M.ok_ok, M.ok_no, M.oko_some, M.ok_eC, M.ok_eV0, M.ok_eVs, M.ok_e1, M.k1, M.ok_e2, M.k2a, M.k2, M.ok_evs0, M.ok_evs, M.kA, M.ok_eTup, M.ok_eLst, M.ok_eB, M.ok_eCall, M.kTup, M.kLst, M.kB, M.kCall, M.ok_eIf, M.kIfE, M.ok_eAnd, M.kAnd, M.ok_eOr, M.kOr, M.ok_eNot, M.kNotE, M.ok_eChain, M.kCh, M.kCh2, M.ok_tOfE, M.kTo, M.ok_tTru, M.kTru, M.ok_tAnd, M.ok_tOr, M.ok_tNot, M.kTAnd, M.kTOr, M.kTNot, M.ok_tYes, M.ok_pNo, M.ok_pSome, M.kPs, M.ok_eCut, M.kCut, M.kCut1, M.kCut2, M.ok_eDGet, M.kDg, M.kDg2, M.ok_sSeq, M.kSeq_nx, M.kSeq_rt, M.kSeq_bk, M.kSeq_ct, M.ok_sSet, M.kSet, M.ok_sAsg, M.kAsg, M.ok_sPar, M.kPar, M.ok_sDrop, M.kDrop, M.ok_sRet, M.kRet, M.ok_sRetN, M.ok_sNext, M.ok_sBrk, M.ok_sCnt, M.ok_sIf, M.kIf, M.kAug, M.kApp, M.ok_sFor, M.kFor, M.ok_fnM, M.kFn_rt, M.kFn_nx, M.ok_iS, M.kIS_lst, M.kIS_tup, M.ok_iR1, M.kR1, M.ok_iR2, M.kR2, M.ok_eLstRg, M.ok_eTupRg, M.kRg, M.ok_rg1, M.kRg1, M.ok_rg2, M.kRg2, M.kRg2b, M.ok_eM1, M.kM1, M.kM1b, M.ok_eComp, M.kComp, M.kComp1, M.ok_eComp2, M.kCompC, M.kCompB, M.ok_eDisp, M.kDisp, M.ok_sAug1, M.ok_sApp1, M.kApp1, M.kIt_nx, M.kIt_ct, M.kIt_bk, M.kIt_rt, M.v_sub, M.v_addI, M.v_addA, M.v_subA, M.v_lt, M.v_le, M.v_gt, M.v_ge, M.v_int, M.v_lenL, M.v_lenT, M.v_lenZ, M.v_abs, M.v_max, M.v_min, M.v_neg, M.v_ixL, M.v_ixT, M.v_ixZ, M.v_cutL, M.v_cutT, M.v_tupL, M.v_tupT, M.v_lstL, M.v_lstT, M.tr_bl, M.tr_int, M.tr_lst, M.tr_tup, M.tr_non, M.env0_go, M.g_N, M.g_T, M.g_sC, M.g_sN, M.wipe0, M.wipeS, M.ge_0, M.ge_S, List.set_cons_zero, List.set_cons_succ, List.map_cons, List.map_nil, List.cons_append, List.nil_append, List.length_cons, List.length_nil, Nat.reduceAdd, Nat.reduceSub, List.replicate_succ, List.replicate_zero, Option.bind_some, String.reduceBEq, Int.reduceBEq, Bool.or_self, if_true, if_false, Bool.false_eq_true, Bool.not_true, Bool.not_false, true_and, and_true, decide_true, decide_false, Option.map_some, M.is_non_int, M.is_non_bool, M.is_non_str, M.is_non_tuple, M.is_non_list, M.is_non_dict, M.is_bl_int, M.is_bl_bool, M.is_bl_str, M.is_bl_tuple, M.is_bl_list, M.is_bl_dict, M.is_int_int, M.is_int_bool, M.is_int_str, M.is_int_tuple, M.is_int_list, M.is_int_dict, M.is_str_int, M.is_str_bool, M.is_str_str, M.is_str_tuple, M.is_str_list, M.is_str_dict, M.is_tup_int, M.is_tup_bool, M.is_tup_str, M.is_tup_tuple, M.is_tup_list, M.is_tup_dict, M.is_lst_int, M.is_lst_bool, M.is_lst_str, M.is_lst_tuple, M.is_lst_list, M.is_lst_dict, M.isn_non, M.isn_bl, M.isn_int, M.isn_str, M.isn_tup, M.isn_lst, M.str_beq, M.f_non, M.f_bl, M.f_int, M.f_str, M.fe_str, M.fe_int, M.fe_si, M.fe_is, M.in_tup, M.in_lst, M.nin_tup, M.nin_lst, M.at_0, M.at_1, M.at_2, M.at_3, M.eq_int, M.ne_int, M.eq_bl, M.eq_nil, M.eq_str, M.ne_str, List.all_cons, List.all_nil, List.any_cons, List.any_nil, Bool.and_self, Bool.or_false, Bool.false_or, Bool.or_true, Bool.true_or, Bool.and_true, Bool.true_and, Bool.and_false, Bool.false_and, beq_self_eq_true, bne_self_eq_false, M.kCe, M.kCt, M.kForT_nx, M.kForT_ct, M.kForT_bk, M.kForT_rt, M.cut_1, M.all_1, M.all_2, M.any_1, M.any_2, M.sum_1, M.sum_2, M.all_map, M.any_map, M.sum_map, M.ok_eJs, M.ok_jsN, M.ok_jsC, M.kJs, v_sset (show ks.length + 1 < 4096 by omega)]
    exact ⟨a', _, gd_set hk, by rw [isort_length]; have := ded_len ks; omega, rfl, rfl⟩
  · have c : ((n1 : Int) == 0) = false := by simpa using c
    obtain ⟨L, q2, f2⟩ := nx_nat h1 (a + 1) t (2 ^ b) (Nat.two_pow_pos b)
    have f2 : g 5 [.ref 0, .int (tw b)] (Sd xs (a + 1) t) = .ok (.int L) (Sd xs (a + 1 + 1) t) := f2
    have q2 : (L : Int) < tw b := by unfold tw; omega
    obtain ⟨d, hd, f3⟩ := pk_mem h2 (a + 1 + 1) t [.int 1, .int 3, .int 9, .int (tw b)] (by simp)
    obtain ⟨m, m1, rfl⟩ : ∃ m : Int, 1 ≤ m ∧ d = .int m := by
      simp only [List.mem_cons, List.not_mem_nil, or_false] at hd
      rcases hd with rfl | rfl | rfl | rfl
      · exact ⟨1, by decide, rfl⟩
      · exact ⟨3, by decide, rfl⟩
      · exact ⟨9, by decide, rfl⟩
      · exact ⟨_, by omega, rfl⟩
    have f4 := h1 (a + 1 + 1 + 1) t (1 + m) (by omega)
    have u1 := nxt_9 (a := a + 1 + 1 + 1) (m := 1 + m) h9 (by omega)
    have u0 := nxt_0 (xs := xs) (a := a + 1 + 1 + 1) (m := 1 + m) (by omega)
    generalize nxt xs (a + 1 + 1 + 1) (1 + m) = u at f4 u0 u1
    obtain ⟨hgh, hh1, hh2⟩ : ∃ z : Int, (if (L : Int) + 1 + u < tw b then (L : Int) + 1 + u else tw b) = z ∧ (L < z ∧ z ≤ tw b ∧ z ≤ L + 997) := by
      refine ⟨_, rfl, ?_⟩
      split <;> omega
    obtain ⟨rs, r1, r2, r3, r4⟩ := rng_ints (L : Int) (hgh - L).toNat
    obtain ⟨n5, q5, f5⟩ := nx_nat h1 (a + 1 + 1 + 1 + 1) t 3 (by decide)
    have f5 : g 5 [.ref 0, .int 3] (Sd xs (a + 1 + 1 + 1 + 1) t) = .ok (.int n5) (Sd xs (a + 1 + 1 + 1 + 1 + 1) t) := f5
    simp only [M.ok_ok, M.ok_no, M.oko_some, M.ok_eC, M.ok_eV0, M.ok_eVs, M.ok_e1, M.k1, M.ok_e2, M.k2a, M.k2, M.ok_evs0, M.ok_evs, M.kA, M.ok_eTup, M.ok_eLst, M.ok_eB, M.ok_eCall, M.kTup, M.kLst, M.kB, M.kCall, M.ok_eIf, M.kIfE, M.ok_eAnd, M.kAnd, M.ok_eOr, M.kOr, M.ok_eNot, M.kNotE, M.ok_eChain, M.kCh, M.kCh2, M.ok_tOfE, M.kTo, M.ok_tTru, M.kTru, M.ok_tAnd, M.ok_tOr, M.ok_tNot, M.kTAnd, M.kTOr, M.kTNot, M.ok_tYes, M.ok_pNo, M.ok_pSome, M.kPs, M.ok_eCut, M.kCut, M.kCut1, M.kCut2, M.ok_eDGet, M.kDg, M.kDg2, M.ok_sSeq, M.kSeq_nx, M.kSeq_rt, M.kSeq_bk, M.kSeq_ct, M.ok_sSet, M.kSet, M.ok_sAsg, M.kAsg, M.ok_sPar, M.kPar, M.ok_sDrop, M.kDrop, M.ok_sRet, M.kRet, M.ok_sRetN, M.ok_sNext, M.ok_sBrk, M.ok_sCnt, M.ok_sIf, M.kIf, M.kAug, M.kApp, M.ok_sFor, M.kFor, M.ok_fnM, M.kFn_rt, M.kFn_nx, M.ok_iS, M.kIS_lst, M.kIS_tup, M.ok_iR1, M.kR1, M.ok_iR2, M.kR2, M.ok_eLstRg, M.ok_eTupRg, M.kRg, M.ok_rg1, M.kRg1, M.ok_rg2, M.kRg2, M.kRg2b, M.ok_eM1, M.kM1, M.kM1b, M.ok_eComp, M.kComp, M.kComp1, M.ok_eComp2, M.kCompC, M.kCompB, M.ok_eDisp, M.kDisp, M.ok_sAug1, M.ok_sApp1, M.kApp1, M.kIt_nx, M.kIt_ct, M.kIt_bk, M.kIt_rt, M.v_sub, M.v_addI, M.v_addA, M.v_subA, M.v_lt, M.v_le, M.v_gt, M.v_ge, M.v_int, M.v_lenL, M.v_lenT, M.v_lenZ, M.v_abs, M.v_max, M.v_min, M.v_neg, M.v_ixL, M.v_ixT, M.v_ixZ, M.v_cutL, M.v_cutT, M.v_tupL, M.v_tupT, M.v_lstL, M.v_lstT, M.tr_bl, M.tr_int, M.tr_lst, M.tr_tup, M.tr_non, M.env0_go, M.g_N, M.g_T, M.g_sC, M.g_sN, M.wipe0, M.wipeS, M.ge_0, M.ge_S, List.set_cons_zero, List.set_cons_succ, List.map_cons, List.map_nil, List.cons_append, List.nil_append, List.length_cons, List.length_nil, Nat.reduceAdd, Nat.reduceSub, List.replicate_succ, List.replicate_zero, Option.bind_some, String.reduceBEq, Int.reduceBEq, Bool.or_self, if_true, if_false, Bool.false_eq_true, Bool.not_true, Bool.not_false, true_and, and_true, decide_true, decide_false, Option.map_some, M.is_non_int, M.is_non_bool, M.is_non_str, M.is_non_tuple, M.is_non_list, M.is_non_dict, M.is_bl_int, M.is_bl_bool, M.is_bl_str, M.is_bl_tuple, M.is_bl_list, M.is_bl_dict, M.is_int_int, M.is_int_bool, M.is_int_str, M.is_int_tuple, M.is_int_list, M.is_int_dict, M.is_str_int, M.is_str_bool, M.is_str_str, M.is_str_tuple, M.is_str_list, M.is_str_dict, M.is_tup_int, M.is_tup_bool, M.is_tup_str, M.is_tup_tuple, M.is_tup_list, M.is_tup_dict, M.is_lst_int, M.is_lst_bool, M.is_lst_str, M.is_lst_tuple, M.is_lst_list, M.is_lst_dict, M.isn_non, M.isn_bl, M.isn_int, M.isn_str, M.isn_tup, M.isn_lst, M.str_beq, M.f_non, M.f_bl, M.f_int, M.f_str, M.fe_str, M.fe_int, M.fe_si, M.fe_is, M.in_tup, M.in_lst, M.nin_tup, M.nin_lst, M.at_0, M.at_1, M.at_2, M.at_3, M.eq_int, M.ne_int, M.eq_bl, M.eq_nil, M.eq_str, M.ne_str, List.all_cons, List.all_nil, List.any_cons, List.any_nil, Bool.and_self, Bool.or_false, Bool.false_or, Bool.or_true, Bool.true_or, Bool.and_true, Bool.true_and, Bool.and_false, Bool.false_and, beq_self_eq_true, bne_self_eq_false, M.kCe, M.kCt, M.kForT_nx, M.kForT_ct, M.kForT_bk, M.kForT_rt, M.cut_1, M.all_1, M.all_2, M.any_1, M.any_2, M.sum_1, M.sum_2, M.all_map, M.any_map, M.sum_map, M.ok_eJs, M.ok_jsN, M.ok_jsC, M.kJs, s1, f1, c, f2, f3, f4, hh1, r1, f5]
    refine ⟨by unfold rgOk; simp only [decide_eq_true_eq]; omega, by omega, ?_⟩
    rw [Int.toNat_natCast]
    refine Ok.mono (drawn_ok h1) ?_
    rintro ds s ⟨a', ks, rfl, hk, hl, rfl⟩
    have ea : rs.map D.int ++ ks.map D.int = (rs ++ ks).map D.int := by rw [List.map_append]
    have al : ∀ x ∈ rs ++ ks, 0 ≤ x ∧ x < tw b := fun x hx => by
      rcases List.mem_append.mp hx with hx | hx
      · have := r4 x hx; omega
      · exact hk x hx
    have ll : (rs ++ ks).length ≤ 1000 := by rw [List.length_append, r3, hl]; omega
    have ne : (rs ++ ks).map D.int ≠ [] := fun e => by
      have := congrArg List.length e
      rw [List.length_map, List.length_append, r3, List.length_nil] at this
      omega
    obtain ⟨d, hd, f6⟩ := pk_mem h2 a' t ((rs ++ ks).map D.int) ne
    obtain ⟨ho, hm, rfl⟩ := List.mem_map.mp hd
    simp only [M.ok_ok, M.ok_no, M.oko_some, M.ok_eC, M.ok_eV0, M.ok_eVs, M.ok_e1, M.k1, M.ok_e2, M.k2a, M.k2, M.ok_evs0, M.ok_evs, M.kA, M.ok_eTup, M.ok_eLst, M.ok_eB, M.ok_eCall, M.kTup, M.kLst, M.kB, M.kCall, M.ok_eIf, M.kIfE, M.ok_eAnd, M.kAnd, M.ok_eOr, M.kOr, M.ok_eNot, M.kNotE, M.ok_eChain, M.kCh, M.kCh2, M.ok_tOfE, M.kTo, M.ok_tTru, M.kTru, M.ok_tAnd, M.ok_tOr, M.ok_tNot, M.kTAnd, M.kTOr, M.kTNot, M.ok_tYes, M.ok_pNo, M.ok_pSome, M.kPs, M.ok_eCut, M.kCut, M.kCut1, M.kCut2, M.ok_eDGet, M.kDg, M.kDg2, M.ok_sSeq, M.kSeq_nx, M.kSeq_rt, M.kSeq_bk, M.kSeq_ct, M.ok_sSet, M.kSet, M.ok_sAsg, M.kAsg, M.ok_sPar, M.kPar, M.ok_sDrop, M.kDrop, M.ok_sRet, M.kRet, M.ok_sRetN, M.ok_sNext, M.ok_sBrk, M.ok_sCnt, M.ok_sIf, M.kIf, M.kAug, M.kApp, M.ok_sFor, M.kFor, M.ok_fnM, M.kFn_rt, M.kFn_nx, M.ok_iS, M.kIS_lst, M.kIS_tup, M.ok_iR1, M.kR1, M.ok_iR2, M.kR2, M.ok_eLstRg, M.ok_eTupRg, M.kRg, M.ok_rg1, M.kRg1, M.ok_rg2, M.kRg2, M.kRg2b, M.ok_eM1, M.kM1, M.kM1b, M.ok_eComp, M.kComp, M.kComp1, M.ok_eComp2, M.kCompC, M.kCompB, M.ok_eDisp, M.kDisp, M.ok_sAug1, M.ok_sApp1, M.kApp1, M.kIt_nx, M.kIt_ct, M.kIt_bk, M.kIt_rt, M.v_sub, M.v_addI, M.v_addA, M.v_subA, M.v_lt, M.v_le, M.v_gt, M.v_ge, M.v_int, M.v_lenL, M.v_lenT, M.v_lenZ, M.v_abs, M.v_max, M.v_min, M.v_neg, M.v_ixL, M.v_ixT, M.v_ixZ, M.v_cutL, M.v_cutT, M.v_tupL, M.v_tupT, M.v_lstL, M.v_lstT, M.tr_bl, M.tr_int, M.tr_lst, M.tr_tup, M.tr_non, M.env0_go, M.g_N, M.g_T, M.g_sC, M.g_sN, M.wipe0, M.wipeS, M.ge_0, M.ge_S, List.set_cons_zero, List.set_cons_succ, List.map_cons, List.map_nil, List.cons_append, List.nil_append, List.length_cons, List.length_nil, Nat.reduceAdd, Nat.reduceSub, List.replicate_succ, List.replicate_zero, Option.bind_some, String.reduceBEq, Int.reduceBEq, Bool.or_self, if_true, if_false, Bool.false_eq_true, Bool.not_true, Bool.not_false, true_and, and_true, decide_true, decide_false, Option.map_some, M.is_non_int, M.is_non_bool, M.is_non_str, M.is_non_tuple, M.is_non_list, M.is_non_dict, M.is_bl_int, M.is_bl_bool, M.is_bl_str, M.is_bl_tuple, M.is_bl_list, M.is_bl_dict, M.is_int_int, M.is_int_bool, M.is_int_str, M.is_int_tuple, M.is_int_list, M.is_int_dict, M.is_str_int, M.is_str_bool, M.is_str_str, M.is_str_tuple, M.is_str_list, M.is_str_dict, M.is_tup_int, M.is_tup_bool, M.is_tup_str, M.is_tup_tuple, M.is_tup_list, M.is_tup_dict, M.is_lst_int, M.is_lst_bool, M.is_lst_str, M.is_lst_tuple, M.is_lst_list, M.is_lst_dict, M.isn_non, M.isn_bl, M.isn_int, M.isn_str, M.isn_tup, M.isn_lst, M.str_beq, M.f_non, M.f_bl, M.f_int, M.f_str, M.fe_str, M.fe_int, M.fe_si, M.fe_is, M.in_tup, M.in_lst, M.nin_tup, M.nin_lst, M.at_0, M.at_1, M.at_2, M.at_3, M.eq_int, M.ne_int, M.eq_bl, M.eq_nil, M.eq_str, M.ne_str, List.all_cons, List.all_nil, List.any_cons, List.any_nil, Bool.and_self, Bool.or_false, Bool.false_or, Bool.or_true, Bool.true_or, Bool.and_true, Bool.true_and, Bool.and_false, Bool.false_and, beq_self_eq_true, bne_self_eq_false, M.kCe, M.kCt, M.kForT_nx, M.kForT_ct, M.kForT_bk, M.kForT_rt, M.cut_1, M.all_1, M.all_2, M.any_1, M.any_2, M.sum_1, M.sum_2, M.all_map, M.any_map, M.sum_map, M.ok_eJs, M.ok_jsN, M.ok_jsC, M.kJs, v_addL (show (rs.map D.int).length + (ks.map D.int).length ≤ sizeLine by rw [List.length_map, List.length_map]; rw [List.length_append] at ll; omega), ea, f6]
    refine Ok.of (comp_f (neE ho ((n1 : Int) == 1)) id fun d hd => ?_) ?_
    · obtain ⟨n, _, rfl⟩ := List.mem_map.mp hd
      unfold neE
      by_cases c1 : (n == ho) = true
      · by_cases c2 : ((n1 : Int) == 1) = true
        · simp only [M.ok_ok, M.ok_no, M.oko_some, M.ok_eC, M.ok_eV0, M.ok_eVs, M.ok_e1, M.k1, M.ok_e2, M.k2a, M.k2, M.ok_evs0, M.ok_evs, M.kA, M.ok_eTup, M.ok_eLst, M.ok_eB, M.ok_eCall, M.kTup, M.kLst, M.kB, M.kCall, M.ok_eIf, M.kIfE, M.ok_eAnd, M.kAnd, M.ok_eOr, M.kOr, M.ok_eNot, M.kNotE, M.ok_eChain, M.kCh, M.kCh2, M.ok_tOfE, M.kTo, M.ok_tTru, M.kTru, M.ok_tAnd, M.ok_tOr, M.ok_tNot, M.kTAnd, M.kTOr, M.kTNot, M.ok_tYes, M.ok_pNo, M.ok_pSome, M.kPs, M.ok_eCut, M.kCut, M.kCut1, M.kCut2, M.ok_eDGet, M.kDg, M.kDg2, M.ok_sSeq, M.kSeq_nx, M.kSeq_rt, M.kSeq_bk, M.kSeq_ct, M.ok_sSet, M.kSet, M.ok_sAsg, M.kAsg, M.ok_sPar, M.kPar, M.ok_sDrop, M.kDrop, M.ok_sRet, M.kRet, M.ok_sRetN, M.ok_sNext, M.ok_sBrk, M.ok_sCnt, M.ok_sIf, M.kIf, M.kAug, M.kApp, M.ok_sFor, M.kFor, M.ok_fnM, M.kFn_rt, M.kFn_nx, M.ok_iS, M.kIS_lst, M.kIS_tup, M.ok_iR1, M.kR1, M.ok_iR2, M.kR2, M.ok_eLstRg, M.ok_eTupRg, M.kRg, M.ok_rg1, M.kRg1, M.ok_rg2, M.kRg2, M.kRg2b, M.ok_eM1, M.kM1, M.kM1b, M.ok_eComp, M.kComp, M.kComp1, M.ok_eComp2, M.kCompC, M.kCompB, M.ok_eDisp, M.kDisp, M.ok_sAug1, M.ok_sApp1, M.kApp1, M.kIt_nx, M.kIt_ct, M.kIt_bk, M.kIt_rt, M.v_sub, M.v_addI, M.v_addA, M.v_subA, M.v_lt, M.v_le, M.v_gt, M.v_ge, M.v_int, M.v_lenL, M.v_lenT, M.v_lenZ, M.v_abs, M.v_max, M.v_min, M.v_neg, M.v_ixL, M.v_ixT, M.v_ixZ, M.v_cutL, M.v_cutT, M.v_tupL, M.v_tupT, M.v_lstL, M.v_lstT, M.tr_bl, M.tr_int, M.tr_lst, M.tr_tup, M.tr_non, M.env0_go, M.g_N, M.g_T, M.g_sC, M.g_sN, M.wipe0, M.wipeS, M.ge_0, M.ge_S, List.set_cons_zero, List.set_cons_succ, List.map_cons, List.map_nil, List.cons_append, List.nil_append, List.length_cons, List.length_nil, Nat.reduceAdd, Nat.reduceSub, List.replicate_succ, List.replicate_zero, Option.bind_some, String.reduceBEq, Int.reduceBEq, Bool.or_self, if_true, if_false, Bool.false_eq_true, Bool.not_true, Bool.not_false, true_and, and_true, decide_true, decide_false, Option.map_some, M.is_non_int, M.is_non_bool, M.is_non_str, M.is_non_tuple, M.is_non_list, M.is_non_dict, M.is_bl_int, M.is_bl_bool, M.is_bl_str, M.is_bl_tuple, M.is_bl_list, M.is_bl_dict, M.is_int_int, M.is_int_bool, M.is_int_str, M.is_int_tuple, M.is_int_list, M.is_int_dict, M.is_str_int, M.is_str_bool, M.is_str_str, M.is_str_tuple, M.is_str_list, M.is_str_dict, M.is_tup_int, M.is_tup_bool, M.is_tup_str, M.is_tup_tuple, M.is_tup_list, M.is_tup_dict, M.is_lst_int, M.is_lst_bool, M.is_lst_str, M.is_lst_tuple, M.is_lst_list, M.is_lst_dict, M.isn_non, M.isn_bl, M.isn_int, M.isn_str, M.isn_tup, M.isn_lst, M.str_beq, M.f_non, M.f_bl, M.f_int, M.f_str, M.fe_str, M.fe_int, M.fe_si, M.fe_is, M.in_tup, M.in_lst, M.nin_tup, M.nin_lst, M.at_0, M.at_1, M.at_2, M.at_3, M.eq_int, M.ne_int, M.eq_bl, M.eq_nil, M.eq_str, M.ne_str, List.all_cons, List.all_nil, List.any_cons, List.any_nil, Bool.and_self, Bool.or_false, Bool.false_or, Bool.or_true, Bool.true_or, Bool.and_true, Bool.true_and, Bool.and_false, Bool.false_and, beq_self_eq_true, bne_self_eq_false, M.kCe, M.kCt, M.kForT_nx, M.kForT_ct, M.kForT_bk, M.kForT_rt, M.cut_1, M.all_1, M.all_2, M.any_1, M.any_2, M.sum_1, M.sum_2, M.all_map, M.any_map, M.sum_map, M.ok_eJs, M.ok_jsN, M.ok_jsC, M.kJs, c1, c2]
          simp
        · have c2 : ((n1 : Int) == 1) = false := by simpa using c2
          simp only [M.ok_ok, M.ok_no, M.oko_some, M.ok_eC, M.ok_eV0, M.ok_eVs, M.ok_e1, M.k1, M.ok_e2, M.k2a, M.k2, M.ok_evs0, M.ok_evs, M.kA, M.ok_eTup, M.ok_eLst, M.ok_eB, M.ok_eCall, M.kTup, M.kLst, M.kB, M.kCall, M.ok_eIf, M.kIfE, M.ok_eAnd, M.kAnd, M.ok_eOr, M.kOr, M.ok_eNot, M.kNotE, M.ok_eChain, M.kCh, M.kCh2, M.ok_tOfE, M.kTo, M.ok_tTru, M.kTru, M.ok_tAnd, M.ok_tOr, M.ok_tNot, M.kTAnd, M.kTOr, M.kTNot, M.ok_tYes, M.ok_pNo, M.ok_pSome, M.kPs, M.ok_eCut, M.kCut, M.kCut1, M.kCut2, M.ok_eDGet, M.kDg, M.kDg2, M.ok_sSeq, M.kSeq_nx, M.kSeq_rt, M.kSeq_bk, M.kSeq_ct, M.ok_sSet, M.kSet, M.ok_sAsg, M.kAsg, M.ok_sPar, M.kPar, M.ok_sDrop, M.kDrop, M.ok_sRet, M.kRet, M.ok_sRetN, M.ok_sNext, M.ok_sBrk, M.ok_sCnt, M.ok_sIf, M.kIf, M.kAug, M.kApp, M.ok_sFor, M.kFor, M.ok_fnM, M.kFn_rt, M.kFn_nx, M.ok_iS, M.kIS_lst, M.kIS_tup, M.ok_iR1, M.kR1, M.ok_iR2, M.kR2, M.ok_eLstRg, M.ok_eTupRg, M.kRg, M.ok_rg1, M.kRg1, M.ok_rg2, M.kRg2, M.kRg2b, M.ok_eM1, M.kM1, M.kM1b, M.ok_eComp, M.kComp, M.kComp1, M.ok_eComp2, M.kCompC, M.kCompB, M.ok_eDisp, M.kDisp, M.ok_sAug1, M.ok_sApp1, M.kApp1, M.kIt_nx, M.kIt_ct, M.kIt_bk, M.kIt_rt, M.v_sub, M.v_addI, M.v_addA, M.v_subA, M.v_lt, M.v_le, M.v_gt, M.v_ge, M.v_int, M.v_lenL, M.v_lenT, M.v_lenZ, M.v_abs, M.v_max, M.v_min, M.v_neg, M.v_ixL, M.v_ixT, M.v_ixZ, M.v_cutL, M.v_cutT, M.v_tupL, M.v_tupT, M.v_lstL, M.v_lstT, M.tr_bl, M.tr_int, M.tr_lst, M.tr_tup, M.tr_non, M.env0_go, M.g_N, M.g_T, M.g_sC, M.g_sN, M.wipe0, M.wipeS, M.ge_0, M.ge_S, List.set_cons_zero, List.set_cons_succ, List.map_cons, List.map_nil, List.cons_append, List.nil_append, List.length_cons, List.length_nil, Nat.reduceAdd, Nat.reduceSub, List.replicate_succ, List.replicate_zero, Option.bind_some, String.reduceBEq, Int.reduceBEq, Bool.or_self, if_true, if_false, Bool.false_eq_true, Bool.not_true, Bool.not_false, true_and, and_true, decide_true, decide_false, Option.map_some, M.is_non_int, M.is_non_bool, M.is_non_str, M.is_non_tuple, M.is_non_list, M.is_non_dict, M.is_bl_int, M.is_bl_bool, M.is_bl_str, M.is_bl_tuple, M.is_bl_list, M.is_bl_dict, M.is_int_int, M.is_int_bool, M.is_int_str, M.is_int_tuple, M.is_int_list, M.is_int_dict, M.is_str_int, M.is_str_bool, M.is_str_str, M.is_str_tuple, M.is_str_list, M.is_str_dict, M.is_tup_int, M.is_tup_bool, M.is_tup_str, M.is_tup_tuple, M.is_tup_list, M.is_tup_dict, M.is_lst_int, M.is_lst_bool, M.is_lst_str, M.is_lst_tuple, M.is_lst_list, M.is_lst_dict, M.isn_non, M.isn_bl, M.isn_int, M.isn_str, M.isn_tup, M.isn_lst, M.str_beq, M.f_non, M.f_bl, M.f_int, M.f_str, M.fe_str, M.fe_int, M.fe_si, M.fe_is, M.in_tup, M.in_lst, M.nin_tup, M.nin_lst, M.at_0, M.at_1, M.at_2, M.at_3, M.eq_int, M.ne_int, M.eq_bl, M.eq_nil, M.eq_str, M.ne_str, List.all_cons, List.all_nil, List.any_cons, List.any_nil, Bool.and_self, Bool.or_false, Bool.false_or, Bool.or_true, Bool.true_or, Bool.and_true, Bool.true_and, Bool.and_false, Bool.false_and, beq_self_eq_true, bne_self_eq_false, M.kCe, M.kCt, M.kForT_nx, M.kForT_ct, M.kForT_bk, M.kForT_rt, M.cut_1, M.all_1, M.all_2, M.any_1, M.any_2, M.sum_1, M.sum_2, M.all_map, M.any_map, M.sum_map, M.ok_eJs, M.ok_jsN, M.ok_jsC, M.kJs, c1, c2]
          simp
      · have c1 : (n == ho) = false := by simpa using c1
        simp only [M.ok_ok, M.ok_no, M.oko_some, M.ok_eC, M.ok_eV0, M.ok_eVs, M.ok_e1, M.k1, M.ok_e2, M.k2a, M.k2, M.ok_evs0, M.ok_evs, M.kA, M.ok_eTup, M.ok_eLst, M.ok_eB, M.ok_eCall, M.kTup, M.kLst, M.kB, M.kCall, M.ok_eIf, M.kIfE, M.ok_eAnd, M.kAnd, M.ok_eOr, M.kOr, M.ok_eNot, M.kNotE, M.ok_eChain, M.kCh, M.kCh2, M.ok_tOfE, M.kTo, M.ok_tTru, M.kTru, M.ok_tAnd, M.ok_tOr, M.ok_tNot, M.kTAnd, M.kTOr, M.kTNot, M.ok_tYes, M.ok_pNo, M.ok_pSome, M.kPs, M.ok_eCut, M.kCut, M.kCut1, M.kCut2, M.ok_eDGet, M.kDg, M.kDg2, M.ok_sSeq, M.kSeq_nx, M.kSeq_rt, M.kSeq_bk, M.kSeq_ct, M.ok_sSet, M.kSet, M.ok_sAsg, M.kAsg, M.ok_sPar, M.kPar, M.ok_sDrop, M.kDrop, M.ok_sRet, M.kRet, M.ok_sRetN, M.ok_sNext, M.ok_sBrk, M.ok_sCnt, M.ok_sIf, M.kIf, M.kAug, M.kApp, M.ok_sFor, M.kFor, M.ok_fnM, M.kFn_rt, M.kFn_nx, M.ok_iS, M.kIS_lst, M.kIS_tup, M.ok_iR1, M.kR1, M.ok_iR2, M.kR2, M.ok_eLstRg, M.ok_eTupRg, M.kRg, M.ok_rg1, M.kRg1, M.ok_rg2, M.kRg2, M.kRg2b, M.ok_eM1, M.kM1, M.kM1b, M.ok_eComp, M.kComp, M.kComp1, M.ok_eComp2, M.kCompC, M.kCompB, M.ok_eDisp, M.kDisp, M.ok_sAug1, M.ok_sApp1, M.kApp1, M.kIt_nx, M.kIt_ct, M.kIt_bk, M.kIt_rt, M.v_sub, M.v_addI, M.v_addA, M.v_subA, M.v_lt, M.v_le, M.v_gt, M.v_ge, M.v_int, M.v_lenL, M.v_lenT, M.v_lenZ, M.v_abs, M.v_max, M.v_min, M.v_neg, M.v_ixL, M.v_ixT, M.v_ixZ, M.v_cutL, M.v_cutT, M.v_tupL, M.v_tupT, M.v_lstL, M.v_lstT, M.tr_bl, M.tr_int, M.tr_lst, M.tr_tup, M.tr_non, M.env0_go, M.g_N, M.g_T, M.g_sC, M.g_sN, M.wipe0, M.wipeS, M.ge_0, M.ge_S, List.set_cons_zero, List.set_cons_succ, List.map_cons, List.map_nil, List.cons_append, List.nil_append, List.length_cons, List.length_nil, Nat.reduceAdd, Nat.reduceSub, List.replicate_succ, List.replicate_zero, Option.bind_some, String.reduceBEq, Int.reduceBEq, Bool.or_self, if_true, if_false, Bool.false_eq_true, Bool.not_true, Bool.not_false, true_and, and_true, decide_true, decide_false, Option.map_some, M.is_non_int, M.is_non_bool, M.is_non_str, M.is_non_tuple, M.is_non_list, M.is_non_dict, M.is_bl_int, M.is_bl_bool, M.is_bl_str, M.is_bl_tuple, M.is_bl_list, M.is_bl_dict, M.is_int_int, M.is_int_bool, M.is_int_str, M.is_int_tuple, M.is_int_list, M.is_int_dict, M.is_str_int, M.is_str_bool, M.is_str_str, M.is_str_tuple, M.is_str_list, M.is_str_dict, M.is_tup_int, M.is_tup_bool, M.is_tup_str, M.is_tup_tuple, M.is_tup_list, M.is_tup_dict, M.is_lst_int, M.is_lst_bool, M.is_lst_str, M.is_lst_tuple, M.is_lst_list, M.is_lst_dict, M.isn_non, M.isn_bl, M.isn_int, M.isn_str, M.isn_tup, M.isn_lst, M.str_beq, M.f_non, M.f_bl, M.f_int, M.f_str, M.fe_str, M.fe_int, M.fe_si, M.fe_is, M.in_tup, M.in_lst, M.nin_tup, M.nin_lst, M.at_0, M.at_1, M.at_2, M.at_3, M.eq_int, M.ne_int, M.eq_bl, M.eq_nil, M.eq_str, M.ne_str, List.all_cons, List.all_nil, List.any_cons, List.any_nil, Bool.and_self, Bool.or_false, Bool.false_or, Bool.or_true, Bool.true_or, Bool.and_true, Bool.true_and, Bool.and_false, Bool.false_and, beq_self_eq_true, bne_self_eq_false, M.kCe, M.kCt, M.kForT_nx, M.kForT_ct, M.kForT_bk, M.kForT_rt, M.cut_1, M.all_1, M.all_2, M.any_1, M.any_2, M.sum_1, M.sum_2, M.all_map, M.any_map, M.sum_map, M.ok_eJs, M.ok_jsN, M.ok_jsC, M.kJs, c1]
        simp
    have ef : (((rs ++ ks).map D.int).filter (neE ho ((n1 : Int) == 1))).map id = ((rs ++ ks).filter fun n => !(n == ho) || ((n1 : Int) == 1)).map .int := by
      rw [List.map_id, List.filter_map]; rfl
    rw [ef]
    have lf := List.length_filter_le (fun n => !(n == ho) || ((n1 : Int) == 1)) (rs ++ ks)
    have alf : ∀ x ∈ (rs ++ ks).filter fun n => !(n == ho) || ((n1 : Int) == 1), 0 ≤ x ∧ x < tw b := fun x hx => al x (List.mem_filter.mp hx).1
    generalize ((rs ++ ks).filter fun n => !(n == ho) || ((n1 : Int) == 1)) = fs at lf alf
    simp only [M.ok_ok, M.ok_no, M.oko_some, M.ok_eC, M.ok_eV0, M.ok_eVs, M.ok_e1, M.k1, M.ok_e2, M.k2a, M.k2, M.ok_evs0, M.ok_evs, M.kA, M.ok_eTup, M.ok_eLst, M.ok_eB, M.ok_eCall, M.kTup, M.kLst, M.kB, M.kCall, M.ok_eIf, M.kIfE, M.ok_eAnd, M.kAnd, M.ok_eOr, M.kOr, M.ok_eNot, M.kNotE, M.ok_eChain, M.kCh, M.kCh2, M.ok_tOfE, M.kTo, M.ok_tTru, M.kTru, M.ok_tAnd, M.ok_tOr, M.ok_tNot, M.kTAnd, M.kTOr, M.kTNot, M.ok_tYes, M.ok_pNo, M.ok_pSome, M.kPs, M.ok_eCut, M.kCut, M.kCut1, M.kCut2, M.ok_eDGet, M.kDg, M.kDg2, M.ok_sSeq, M.kSeq_nx, M.kSeq_rt, M.kSeq_bk, M.kSeq_ct, M.ok_sSet, M.kSet, M.ok_sAsg, M.kAsg, M.ok_sPar, M.kPar, M.ok_sDrop, M.kDrop, M.ok_sRet, M.kRet, M.ok_sRetN, M.ok_sNext, M.ok_sBrk, M.ok_sCnt, M.ok_sIf, M.kIf, M.kAug, M.kApp, M.ok_sFor, M.kFor, M.ok_fnM, M.kFn_rt, M.kFn_nx, M.ok_iS, M.kIS_lst, M.kIS_tup, M.ok_iR1, M.kR1, M.ok_iR2, M.kR2, M.ok_eLstRg, M.ok_eTupRg, M.kRg, M.ok_rg1, M.kRg1, M.ok_rg2, M.kRg2, M.kRg2b, M.ok_eM1, M.kM1, M.kM1b, M.ok_eComp, M.kComp, M.kComp1, M.ok_eComp2, M.kCompC, M.kCompB, M.ok_eDisp, M.kDisp, M.ok_sAug1, M.ok_sApp1, M.kApp1, M.kIt_nx, M.kIt_ct, M.kIt_bk, M.kIt_rt, M.v_sub, M.v_addI, M.v_addA, M.v_subA, M.v_lt, M.v_le, M.v_gt, M.v_ge, M.v_int, M.v_lenL, M.v_lenT, M.v_lenZ, M.v_abs, M.v_max, M.v_min, M.v_neg, M.v_ixL, M.v_ixT, M.v_ixZ, M.v_cutL, M.v_cutT, M.v_tupL, M.v_tupT, M.v_lstL, M.v_lstT, M.tr_bl, M.tr_int, M.tr_lst, M.tr_tup, M.tr_non, M.env0_go, M.g_N, M.g_T, M.g_sC, M.g_sN, M.wipe0, M.wipeS, M.ge_0, M.ge_S, List.set_cons_zero, List.set_cons_succ, List.map_cons, List.map_nil, List.cons_append, List.nil_append, List.length_cons, List.length_nil, Nat.reduceAdd, Nat.reduceSub, List.replicate_succ, List.replicate_zero, Option.bind_some, String.reduceBEq, Int.reduceBEq, Bool.or_self, if_true, if_false, Bool.false_eq_true, Bool.not_true, Bool.not_false, true_and, and_true, decide_true, decide_false, Option.map_some, M.is_non_int, M.is_non_bool, M.is_non_str, M.is_non_tuple, M.is_non_list, M.is_non_dict, M.is_bl_int, M.is_bl_bool, M.is_bl_str, M.is_bl_tuple, M.is_bl_list, M.is_bl_dict, M.is_int_int, M.is_int_bool, M.is_int_str, M.is_int_tuple, M.is_int_list, M.is_int_dict, M.is_str_int, M.is_str_bool, M.is_str_str, M.is_str_tuple, M.is_str_list, M.is_str_dict, M.is_tup_int, M.is_tup_bool, M.is_tup_str, M.is_tup_tuple, M.is_tup_list, M.is_tup_dict, M.is_lst_int, M.is_lst_bool, M.is_lst_str, M.is_lst_tuple, M.is_lst_list, M.is_lst_dict, M.isn_non, M.isn_bl, M.isn_int, M.isn_str, M.isn_tup, M.isn_lst, M.str_beq, M.f_non, M.f_bl, M.f_int, M.f_str, M.fe_str, M.fe_int, M.fe_si, M.fe_is, M.in_tup, M.in_lst, M.nin_tup, M.nin_lst, M.at_0, M.at_1, M.at_2, M.at_3, M.eq_int, M.ne_int, M.eq_bl, M.eq_nil, M.eq_str, M.ne_str, List.all_cons, List.all_nil, List.any_cons, List.any_nil, Bool.and_self, Bool.or_false, Bool.false_or, Bool.or_true, Bool.true_or, Bool.and_true, Bool.true_and, Bool.and_false, Bool.false_and, beq_self_eq_true, bne_self_eq_false, M.kCe, M.kCt, M.kForT_nx, M.kForT_ct, M.kForT_bk, M.kForT_rt, M.cut_1, M.all_1, M.all_2, M.any_1, M.any_2, M.sum_1, M.sum_2, M.all_map, M.any_map, M.sum_map, M.ok_eJs, M.ok_jsN, M.ok_jsC, M.kJs, v_sset (show fs.length + 1 < 4096 by omega)]
    exact ⟨a' + 1, _, gd_set alf, by rw [isort_length]; have := ded_len fs; omega, rfl, rfl⟩
end Ob
namespace Ob
open PySem PySem.Spec PyProof.Rows L2 M
variable {W : Nat}
theorem isn_not {x y : Bool} : oIsNot (.bl x) (.bl y) = some (.bl (!decide (x = y))) := by cases x <;> cases y <;> rfl
theorem ne_pairs {L : List (Int × Int)} : oNe (.lst (L.map p2)) (.lst (L.map p2)) = some (.bl false) := (Enc.ne (Enc.lst E2) (by decide) L L).trans (by simp)
def PAIR (g : Fns) : MS := (sSeq (sSet 10 (eCall (g 1) [(eV 13), (eV 14), (eV 3)]))
    (sIf (tOrM (tNotM (tTru (eCall (g 8) [(eV 10)]))) (tOfE (e2 oNe (e1 oList (eV 10)) (eCall (g 7) [(eC (.int 0)), (eV 4), (eLstRg (rg2 (eV 13) (e2 oAdd (eV 14) (eC (.int 1))))), (eV 3)])))) (sRet (eC (.bl false))) sNext))
theorem pairs_ok {g : Fns} {b : Nat} {ps : List (Int × Int)} {s : Sto} {o0 o1 o2 o5 o6 o7 o8 o9 o10 o11 o12 o13 o14 o15 : Option D} (hb : b ≤ 12) (hp : ∀ p ∈ ps, (0 ≤ p.1 ∧ p.1 < tw b) ∧ 0 ≤ p.2 ∧ p.2 < tw b)
    (hO : ∀ (b : Nat) (x y : Int) (ns : List Int) (s : Sto), b ≤ 12 → 0 ≤ x ∧ x < tw b → 0 ≤ y ∧ y < tw b → rngD x (y + 1 - x).toNat = ns.map .int → Gd ns 0 b → ns.length ≤ 4096 → g 1 [.int x, .int y, .int b] s = .ok (.tup ((pf b ns 0 0).map p2)) s)
    (hI : ∀ (L : List (Int × Int)) (s : Sto), g 8 [.tup (L.map p2)] s = .ok (.bl true) s)
    (hG : ∀ (b : Nat) (ns : List Int) (s : Sto), b ≤ 12 → Gd ns 0 b → ns.length ≤ 4096 → g 7 [.int 0, .int (tw b), .lst (ns.map .int), .int b] s = .ok (.lst ((pf b ns 0 0).map p2)) s) :
    Ok (forD (gT (gsC (gN 13) (gsC (gN 14) gsN))) (PAIR g) (ps.map p2) [o0, o1, o2, some (.int b), some (.int (tw b)), o5, o6, o7, o8, o9, o10, o11, o12, o13, o14, o15] s)
      fun o s2 => s2 = s ∧ ∃ p10 p13 p14, o = .nx [o0, o1, o2, some (.int b), some (.int (tw b)), o5, o6, o7, o8, o9, p10, o11, o12, p13, p14, o15] := by
  have pb2 := tw_le hb
  refine for_it (fun ds ρ s2 => s2 = s ∧ ∃ (qs : List (Int × Int)) (p10 p13 p14 : Option D), ds = qs.map p2 ∧ (∀ p ∈ qs, (0 ≤ p.1 ∧ p.1 < tw b) ∧ 0 ≤ p.2 ∧ p.2 < tw b) ∧ ρ = [o0, o1, o2, some (.int b), some (.int (tw b)), o5, o6, o7, o8, o9, p10, o11, o12, p13, p14, o15]) ⟨rfl, ps, _, _, _, rfl, hp, rfl⟩ ?_ ?_
  · rintro d ds ρ s2 ⟨rfl, qs, p10, p13, p14, e1, hq, rfl⟩
    cases qs with
    | nil => cases e1
    | cons p qs =>
      rw [List.map_cons] at e1
      injection e1 with e1 e3
      subst e1 e3
      obtain ⟨hx, hy⟩ := hq p List.mem_cons_self
      obtain ⟨ns, r1, r2, r3, r4⟩ := rng_ints p.1 (p.2 + 1 - p.1).toNat
      have hg : Gd ns 0 b := ⟨r2, fun n hn => by have := r4 n hn; omega⟩
      have hl : ns.length ≤ 4096 := by rw [r3]; omega
      unfold PAIR p2
      simp only [M.ok_ok, M.ok_no, M.oko_some, M.ok_eC, M.ok_eV0, M.ok_eVs, M.ok_e1, M.k1, M.ok_e2, M.k2a, M.k2, M.ok_evs0, M.ok_evs, M.kA, M.ok_eTup, M.ok_eLst, M.ok_eB, M.ok_eCall, M.kTup, M.kLst, M.kB, M.kCall, M.ok_eIf, M.kIfE, M.ok_eAnd, M.kAnd, M.ok_eOr, M.kOr, M.ok_eNot, M.kNotE, M.ok_eChain, M.kCh, M.kCh2, M.ok_tOfE, M.kTo, M.ok_tTru, M.kTru, M.ok_tAnd, M.ok_tOr, M.ok_tNot, M.kTAnd, M.kTOr, M.kTNot, M.ok_tYes, M.ok_pNo, M.ok_pSome, M.kPs, M.ok_eCut, M.kCut, M.kCut1, M.kCut2, M.ok_eDGet, M.kDg, M.kDg2, M.ok_sSeq, M.kSeq_nx, M.kSeq_rt, M.kSeq_bk, M.kSeq_ct, M.ok_sSet, M.kSet, M.ok_sAsg, M.kAsg, M.ok_sPar, M.kPar, M.ok_sDrop, M.kDrop, M.ok_sRet, M.kRet, M.ok_sRetN, M.ok_sNext, M.ok_sBrk, M.ok_sCnt, M.ok_sIf, M.kIf, M.kAug, M.kApp, M.ok_sFor, M.kFor, M.ok_fnM, M.kFn_rt, M.kFn_nx, M.ok_iS, M.kIS_lst, M.kIS_tup, M.ok_iR1, M.kR1, M.ok_iR2, M.kR2, M.ok_eLstRg, M.ok_eTupRg, M.kRg, M.ok_rg1, M.kRg1, M.ok_rg2, M.kRg2, M.kRg2b, M.ok_eM1, M.kM1, M.kM1b, M.ok_eComp, M.kComp, M.kComp1, M.ok_eComp2, M.kCompC, M.kCompB, M.ok_eDisp, M.kDisp, M.ok_sAug1, M.ok_sApp1, M.kApp1, M.kIt_nx, M.kIt_ct, M.kIt_bk, M.kIt_rt, M.v_sub, M.v_addI, M.v_addA, M.v_subA, M.v_lt, M.v_le, M.v_gt, M.v_ge, M.v_int, M.v_lenL, M.v_lenT, M.v_lenZ, M.v_abs, M.v_max, M.v_min, M.v_neg, M.v_ixL, M.v_ixT, M.v_ixZ, M.v_cutL, M.v_cutT, M.v_tupL, M.v_tupT, M.v_lstL, M.v_lstT, M.tr_bl, M.tr_int, M.tr_lst, M.tr_tup, M.tr_non, M.env0_go, M.g_N, M.g_T, M.g_sC, M.g_sN, M.wipe0, M.wipeS, M.ge_0, M.ge_S, List.set_cons_zero, List.set_cons_succ, List.map_cons, List.map_nil, List.cons_append, List.nil_append, List.length_cons, List.length_nil, Nat.reduceAdd, Nat.reduceSub, List.replicate_succ, List.replicate_zero, Option.bind_some, String.reduceBEq, Int.reduceBEq, Bool.or_self, if_true, if_false, Bool.false_eq_true, Bool.not_true, Bool.not_false, true_and, and_true, decide_true, decide_false, Option.map_some, M.is_non_int, M.is_non_bool, M.is_non_str, M.is_non_tuple, M.is_non_list, M.is_non_dict, M.is_bl_int, M.is_bl_bool, M.is_bl_str, M.is_bl_tuple, M.is_bl_list, M.is_bl_dict, M.is_int_int, M.is_int_bool, M.is_int_str, M.is_int_tuple, M.is_int_list, M.is_int_dict, M.is_str_int, M.is_str_bool, M.is_str_str, M.is_str_tuple, M.is_str_list, M.is_str_dict, M.is_tup_int, M.is_tup_bool, M.is_tup_str, M.is_tup_tuple, M.is_tup_list, M.is_tup_dict, M.is_lst_int, M.is_lst_bool, M.is_lst_str, M.is_lst_tuple, M.is_lst_list, M.is_lst_dict, M.isn_non, M.isn_bl, M.isn_int, M.isn_str, M.isn_tup, M.isn_lst, M.str_beq, M.f_non, M.f_bl, M.f_int, M.f_str, M.fe_str, M.fe_int, M.fe_si, M.fe_is, M.in_tup, M.in_lst, M.nin_tup, M.nin_lst, M.at_0, M.at_1, M.at_2, M.at_3, M.eq_int, M.ne_int, M.eq_bl, M.eq_nil, M.eq_str, M.ne_str, List.all_cons, List.all_nil, List.any_cons, List.any_nil, Bool.and_self, Bool.or_false, Bool.false_or, Bool.or_true, Bool.true_or, Bool.and_true, Bool.true_and, Bool.and_false, Bool.false_and, beq_self_eq_true, bne_self_eq_false, M.kCe, M.kCt, M.kForT_nx, M.kForT_ct, M.kForT_bk, M.kForT_rt, M.cut_1, M.all_1, M.all_2, M.any_1, M.any_2, M.sum_1, M.sum_2, M.all_map, M.any_map, M.sum_map, M.ok_eJs, M.ok_jsN, M.ok_jsC, M.kJs, hO b p.1 p.2 ns s2 hb hx hy r1 hg hl, hI, r1, hG b ns s2 hb hg hl, ne_pairs]
      exact ⟨by unfold rgOk; simp only [decide_eq_true_eq]; omega, qs, _, _, _, rfl, fun p hp => hq p (List.mem_cons_of_mem _ hp), rfl⟩
  · rintro ρ s2 ⟨rfl, qs, p10, p13, p14, e1, hq, rfl⟩
    exact ⟨rfl, _, _, _, rfl⟩
theorem law_ok {ns : List Int} {k : Nat} (hn : ns.length ≤ 63) (hk : 30 < k) : Ok (G W (k + 1) 10 [.scr ns] []) fun v _ => v = .bl true := by
  show Ok (fnM 16 (m_law W (G W k)) _ _) _
  obtain ⟨xs, h9, hd0⟩ := draws_in (s := []) (m := 400) hn (by decide)
  have hd1 : G W k 4 [.scr ns, .int 400] [] = .ok (.lst (xs.map .int)) [] := by
    obtain ⟨k, rfl⟩ : ∃ j, k = j + 1 := ⟨k - 1, by omega⟩
    exact hd0
  have h1 : Hnx (G W k 5) xs := hnx (by omega)
  have h2 : Hpk (G W k 6) xs := hpk (by omega)
  have hC : ∀ (r l b : Nat) (q n : Int) (s : Sto), b = l + r → b ≤ 12 → G W k 0 [.tup [.int (q * tw r), .int l], .int b, .int n] s = .ok (.bl (decide (q * tw r ≤ n) && decide (n < q * tw r + tw r))) s := fun r l b q n s hb hb2 => cov_of (by omega) hb hb2
  have hS : ∀ (b a : Nat) (t : Sto), b ≤ 12 → ∃ (a' : Nat) (ns : List Int), Gd ns 0 b ∧ ns.length ≤ 4096 ∧ G W k 9 [.ref 0, .int b] (Sd xs a t) = .ok (.lst (ns.map .int)) (Sd xs a' t) := fun b a t hb => some_of (by omega) hb h9
  have hP : ∀ (b : Nat) (ns : List Int) (s : Sto), b ≤ 12 → Gd ns 0 b → ns.length ≤ 4096 → G W k 2 [.tup (ns.map .int), .int b] s = .ok (.tup ((pf b ns 0 0).map p2)) s := fun b ns s hb hg hl => ps_of (by omega) hb hg hl
  have hO : ∀ (b : Nat) (x y : Int) (ns : List Int) (s : Sto), b ≤ 12 → 0 ≤ x ∧ x < tw b → 0 ≤ y ∧ y < tw b → rngD x (y + 1 - x).toNat = ns.map .int → Gd ns 0 b → ns.length ≤ 4096 → G W k 1 [.int x, .int y, .int b] s = .ok (.tup ((pf b ns 0 0).map p2)) s :=
    fun b x y ns s hb hx hy e hg hl => po_of (by omega) hb hx hy e hg hl
  have hI : ∀ (L : List (Int × Int)) (s : Sto), G W k 8 [.tup (L.map p2)] s = .ok (.bl true) s := fun L s => isp_of (by omega)
  have hG : ∀ (b : Nat) (ns : List Int) (s : Sto), b ≤ 12 → Gd ns 0 b → ns.length ≤ 4096 → G W k 7 [.int 0, .int (tw b), .lst (ns.map .int), .int b] s = .ok (.lst ((pf b ns 0 0).map p2)) s := fun b ns s hb hg hl => by
    have := tw_le hb
    have h := gr_of (W := W) b k ns 0 0 b s (by omega) hg (by omega) hb hl (by omega) (by omega)
    rw [Int.zero_add] at h
    exact h
  generalize G W k = g at *
  have z0 : ([.dk (List.zip [.inr "draws", .inr "at"] [.lst (xs.map .int), .int 0])] : Sto) = Sd xs 0 [] := rfl
  unfold m_law
  simp only [M.ok_ok, M.ok_no, M.oko_some, M.ok_eC, M.ok_eV0, M.ok_eVs, M.ok_e1, M.k1, M.ok_e2, M.k2a, M.k2, M.ok_evs0, M.ok_evs, M.kA, M.ok_eTup, M.ok_eLst, M.ok_eB, M.ok_eCall, M.kTup, M.kLst, M.kB, M.kCall, M.ok_eIf, M.kIfE, M.ok_eAnd, M.kAnd, M.ok_eOr, M.kOr, M.ok_eNot, M.kNotE, M.ok_eChain, M.kCh, M.kCh2, M.ok_tOfE, M.kTo, M.ok_tTru, M.kTru, M.ok_tAnd, M.ok_tOr, M.ok_tNot, M.kTAnd, M.kTOr, M.kTNot, M.ok_tYes, M.ok_pNo, M.ok_pSome, M.kPs, M.ok_eCut, M.kCut, M.kCut1, M.kCut2, M.ok_eDGet, M.kDg, M.kDg2, M.ok_sSeq, M.kSeq_nx, M.kSeq_rt, M.kSeq_bk, M.kSeq_ct, M.ok_sSet, M.kSet, M.ok_sAsg, M.kAsg, M.ok_sPar, M.kPar, M.ok_sDrop, M.kDrop, M.ok_sRet, M.kRet, M.ok_sRetN, M.ok_sNext, M.ok_sBrk, M.ok_sCnt, M.ok_sIf, M.kIf, M.kAug, M.kApp, M.ok_sFor, M.kFor, M.ok_fnM, M.kFn_rt, M.kFn_nx, M.ok_iS, M.kIS_lst, M.kIS_tup, M.ok_iR1, M.kR1, M.ok_iR2, M.kR2, M.ok_eLstRg, M.ok_eTupRg, M.kRg, M.ok_rg1, M.kRg1, M.ok_rg2, M.kRg2, M.kRg2b, M.ok_eM1, M.kM1, M.kM1b, M.ok_eComp, M.kComp, M.kComp1, M.ok_eComp2, M.kCompC, M.kCompB, M.ok_eDisp, M.kDisp, M.ok_sAug1, M.ok_sApp1, M.kApp1, M.kIt_nx, M.kIt_ct, M.kIt_bk, M.kIt_rt, M.v_sub, M.v_addI, M.v_addA, M.v_subA, M.v_lt, M.v_le, M.v_gt, M.v_ge, M.v_int, M.v_lenL, M.v_lenT, M.v_lenZ, M.v_abs, M.v_max, M.v_min, M.v_neg, M.v_ixL, M.v_ixT, M.v_ixZ, M.v_cutL, M.v_cutT, M.v_tupL, M.v_tupT, M.v_lstL, M.v_lstT, M.tr_bl, M.tr_int, M.tr_lst, M.tr_tup, M.tr_non, M.env0_go, M.g_N, M.g_T, M.g_sC, M.g_sN, M.wipe0, M.wipeS, M.ge_0, M.ge_S, List.set_cons_zero, List.set_cons_succ, List.map_cons, List.map_nil, List.cons_append, List.nil_append, List.length_cons, List.length_nil, Nat.reduceAdd, Nat.reduceSub, List.replicate_succ, List.replicate_zero, Option.bind_some, String.reduceBEq, Int.reduceBEq, Bool.or_self, if_true, if_false, Bool.false_eq_true, Bool.not_true, Bool.not_false, true_and, and_true, decide_true, decide_false, Option.map_some, M.is_non_int, M.is_non_bool, M.is_non_str, M.is_non_tuple, M.is_non_list, M.is_non_dict, M.is_bl_int, M.is_bl_bool, M.is_bl_str, M.is_bl_tuple, M.is_bl_list, M.is_bl_dict, M.is_int_int, M.is_int_bool, M.is_int_str, M.is_int_tuple, M.is_int_list, M.is_int_dict, M.is_str_int, M.is_str_bool, M.is_str_str, M.is_str_tuple, M.is_str_list, M.is_str_dict, M.is_tup_int, M.is_tup_bool, M.is_tup_str, M.is_tup_tuple, M.is_tup_list, M.is_tup_dict, M.is_lst_int, M.is_lst_bool, M.is_lst_str, M.is_lst_tuple, M.is_lst_list, M.is_lst_dict, M.isn_non, M.isn_bl, M.isn_int, M.isn_str, M.isn_tup, M.isn_lst, M.str_beq, M.f_non, M.f_bl, M.f_int, M.f_str, M.fe_str, M.fe_int, M.fe_si, M.fe_is, M.in_tup, M.in_lst, M.nin_tup, M.nin_lst, M.at_0, M.at_1, M.at_2, M.at_3, M.eq_int, M.ne_int, M.eq_bl, M.eq_nil, M.eq_str, M.ne_str, List.all_cons, List.all_nil, List.any_cons, List.any_nil, Bool.and_self, Bool.or_false, Bool.false_or, Bool.or_true, Bool.true_or, Bool.and_true, Bool.true_and, Bool.and_false, Bool.false_and, beq_self_eq_true, bne_self_eq_false, M.kCe, M.kCt, M.kForT_nx, M.kForT_ct, M.kForT_bk, M.kForT_rt, M.cut_1, M.all_1, M.all_2, M.any_1, M.any_2, M.sum_1, M.sum_2, M.all_map, M.any_map, M.sum_map, M.ok_eJs, M.ok_jsN, M.ok_jsC, M.kJs, hd1, z0]
  refine ⟨by omega, ?_⟩
  refine for_rng (fun i ρ s => ∃ (a : Nat) (t : Sto) (o2 o3 o4 o5 o6 o7 o8 o9 o10 o11 o12 o13 o14 o15 : Option D), ρ = [some (.scr ns), some (.ref 0), o2, o3, o4, o5, o6, o7, o8, o9, o10, o11, o12, o13, o14, o15] ∧ s = Sd xs a t) ⟨0, [], _, _, _, _, _, _, _, _, _, _, _, _, _, _, rfl, rfl⟩ ?_ ?_
  · rintro i ρ s hi ⟨a, t, o2, o3, o4, o5, o6, o7, o8, o9, o10, o11, o12, o13, o14, o15, rfl, rfl⟩
    obtain ⟨d, hd, f1⟩ := pk_mem h2 a t [.int 3, .int 4, .int 5, .int 8, .int 1, .int 2, .int 10, .int 12] (by simp)
    obtain ⟨b, hb, rfl⟩ : ∃ b : Nat, b ≤ 12 ∧ d = .int b := by
      simp only [List.mem_cons, List.not_mem_nil, or_false] at hd
      rcases hd with rfl | rfl | rfl | rfl | rfl | rfl | rfl | rfl
      · exact ⟨3, by decide, rfl⟩
      · exact ⟨4, by decide, rfl⟩
      · exact ⟨5, by decide, rfl⟩
      · exact ⟨8, by decide, rfl⟩
      · exact ⟨1, by decide, rfl⟩
      · exact ⟨2, by decide, rfl⟩
      · exact ⟨10, by decide, rfl⟩
      · exact ⟨12, by decide, rfl⟩
    have sh : ∀ b : Nat, b ≤ 12 → oShl (.int 1) (.int ((b : Nat) : Int)) = some (.int (tw b)) := fun b hb => by
      have := v_shl (i := 1) (j := ((b : Nat) : Int)) (by decide) (by decide) (by omega) (by omega)
      rw [Int.toNat_natCast, tw_go] at this
      exact this
    obtain ⟨l, ql, f2⟩ := nx_nat h1 (a + 1) t (b + 1) (by omega)
    have eb : (b : Int) + 1 = ((b + 1 : Nat) : Int) := by omega
    obtain ⟨r, er⟩ : ∃ r, b = l + r := ⟨b - l, by omega⟩
    have el : (b : Int) - l = (r : Nat) := by omega
    obtain ⟨q, qq, f3⟩ := nx_nat h1 (a + 1 + 1) t (2 ^ l) (Nat.two_pow_pos l)
    have f3 : g 5 [.ref 0, .int (tw l)] (Sd xs (a + 1 + 1) t) = .ok (.int q) (Sd xs (a + 1 + 1 + 1) t) := f3
    have pr := tw_pos r
    have pr2 := tw_le (r := r) (by omega)
    have pb := tw_pos b
    have pb2 := tw_le hb
    have pl2 := tw_le (r := l) (by omega)
    have mu := v_mul (i := (q : Int)) (j := tw r) (by omega) (by unfold tw at pl2; omega) (by omega) (by omega)
    obtain ⟨n5, q5, f5⟩ := nx_nat h1 (a + 1 + 1 + 1) t (2 ^ b) (Nat.two_pow_pos b)
    have f5 : g 5 [.ref 0, .int (tw b)] (Sd xs (a + 1 + 1 + 1) t) = .ok (.int n5) (Sd xs (a + 1 + 1 + 1 + 1) t) := f5
    obtain ⟨n6, q6, f6⟩ := nx_nat h1 (a + 1 + 1 + 1 + 1) t (2 ^ r) (Nat.two_pow_pos r)
    have f6 : g 5 [.ref 0, .int (tw r)] (Sd xs (a + 1 + 1 + 1 + 1) t) = .ok (.int n6) (Sd xs (a + 1 + 1 + 1 + 1 + 1) t) := f6
    have s1 := sh b hb
    have s2 := sh l (by omega)
    have s3 := sh r (by omega)
    simp only [M.ok_ok, M.ok_no, M.oko_some, M.ok_eC, M.ok_eV0, M.ok_eVs, M.ok_e1, M.k1, M.ok_e2, M.k2a, M.k2, M.ok_evs0, M.ok_evs, M.kA, M.ok_eTup, M.ok_eLst, M.ok_eB, M.ok_eCall, M.kTup, M.kLst, M.kB, M.kCall, M.ok_eIf, M.kIfE, M.ok_eAnd, M.kAnd, M.ok_eOr, M.kOr, M.ok_eNot, M.kNotE, M.ok_eChain, M.kCh, M.kCh2, M.ok_tOfE, M.kTo, M.ok_tTru, M.kTru, M.ok_tAnd, M.ok_tOr, M.ok_tNot, M.kTAnd, M.kTOr, M.kTNot, M.ok_tYes, M.ok_pNo, M.ok_pSome, M.kPs, M.ok_eCut, M.kCut, M.kCut1, M.kCut2, M.ok_eDGet, M.kDg, M.kDg2, M.ok_sSeq, M.kSeq_nx, M.kSeq_rt, M.kSeq_bk, M.kSeq_ct, M.ok_sSet, M.kSet, M.ok_sAsg, M.kAsg, M.ok_sPar, M.kPar, M.ok_sDrop, M.kDrop, M.ok_sRet, M.kRet, M.ok_sRetN, M.ok_sNext, M.ok_sBrk, M.ok_sCnt, M.ok_sIf, M.kIf, M.kAug, M.kApp, M.ok_sFor, M.kFor, M.ok_fnM, M.kFn_rt, M.kFn_nx, M.ok_iS, M.kIS_lst, M.kIS_tup, M.ok_iR1, M.kR1, M.ok_iR2, M.kR2, M.ok_eLstRg, M.ok_eTupRg, M.kRg, M.ok_rg1, M.kRg1, M.ok_rg2, M.kRg2, M.kRg2b, M.ok_eM1, M.kM1, M.kM1b, M.ok_eComp, M.kComp, M.kComp1, M.ok_eComp2, M.kCompC, M.kCompB, M.ok_eDisp, M.kDisp, M.ok_sAug1, M.ok_sApp1, M.kApp1, M.kIt_nx, M.kIt_ct, M.kIt_bk, M.kIt_rt, M.v_sub, M.v_addI, M.v_addA, M.v_subA, M.v_lt, M.v_le, M.v_gt, M.v_ge, M.v_int, M.v_lenL, M.v_lenT, M.v_lenZ, M.v_abs, M.v_max, M.v_min, M.v_neg, M.v_ixL, M.v_ixT, M.v_ixZ, M.v_cutL, M.v_cutT, M.v_tupL, M.v_tupT, M.v_lstL, M.v_lstT, M.tr_bl, M.tr_int, M.tr_lst, M.tr_tup, M.tr_non, M.env0_go, M.g_N, M.g_T, M.g_sC, M.g_sN, M.wipe0, M.wipeS, M.ge_0, M.ge_S, List.set_cons_zero, List.set_cons_succ, List.map_cons, List.map_nil, List.cons_append, List.nil_append, List.length_cons, List.length_nil, Nat.reduceAdd, Nat.reduceSub, List.replicate_succ, List.replicate_zero, Option.bind_some, String.reduceBEq, Int.reduceBEq, Bool.or_self, if_true, if_false, Bool.false_eq_true, Bool.not_true, Bool.not_false, true_and, and_true, decide_true, decide_false, Option.map_some, M.is_non_int, M.is_non_bool, M.is_non_str, M.is_non_tuple, M.is_non_list, M.is_non_dict, M.is_bl_int, M.is_bl_bool, M.is_bl_str, M.is_bl_tuple, M.is_bl_list, M.is_bl_dict, M.is_int_int, M.is_int_bool, M.is_int_str, M.is_int_tuple, M.is_int_list, M.is_int_dict, M.is_str_int, M.is_str_bool, M.is_str_str, M.is_str_tuple, M.is_str_list, M.is_str_dict, M.is_tup_int, M.is_tup_bool, M.is_tup_str, M.is_tup_tuple, M.is_tup_list, M.is_tup_dict, M.is_lst_int, M.is_lst_bool, M.is_lst_str, M.is_lst_tuple, M.is_lst_list, M.is_lst_dict, M.isn_non, M.isn_bl, M.isn_int, M.isn_str, M.isn_tup, M.isn_lst, M.str_beq, M.f_non, M.f_bl, M.f_int, M.f_str, M.fe_str, M.fe_int, M.fe_si, M.fe_is, M.in_tup, M.in_lst, M.nin_tup, M.nin_lst, M.at_0, M.at_1, M.at_2, M.at_3, M.eq_int, M.ne_int, M.eq_bl, M.eq_nil, M.eq_str, M.ne_str, List.all_cons, List.all_nil, List.any_cons, List.any_nil, Bool.and_self, Bool.or_false, Bool.false_or, Bool.or_true, Bool.true_or, Bool.and_true, Bool.true_and, Bool.and_false, Bool.false_and, beq_self_eq_true, bne_self_eq_false, M.kCe, M.kCt, M.kForT_nx, M.kForT_ct, M.kForT_bk, M.kForT_rt, M.cut_1, M.all_1, M.all_2, M.any_1, M.any_2, M.sum_1, M.sum_2, M.all_map, M.any_map, M.sum_map, M.ok_eJs, M.ok_jsN, M.ok_jsC, M.kJs, f1, s1, eb, f2, el, s3, s2, f3, mu, f5, f6]
    refine Ok.mono (for_it (Q := fun o s => ∃ p8 p10 p15, o = .nx [some (.scr ns), some (.ref 0), some (.int (0 + (i : Nat))), some (.int b), some (.int (tw b)), some (.int l), some (.int (tw r)), some (.int (q * tw r)), p8, o9, p10, o11, o12, o13, o14, p15] ∧ s = Sd xs (a + 1 + 1 + 1 + 1 + 1) t)
      (fun ds ρ s => ∃ (is : List Int) (p8 p10 p15 : Option D), ds = is.map .int ∧ ρ = [some (.scr ns), some (.ref 0), some (.int (0 + (i : Nat))), some (.int b), some (.int (tw b)), some (.int l), some (.int (tw r)), some (.int (q * tw r)), p8, o9, p10, o11, o12, o13, o14, p15] ∧ s = Sd xs (a + 1 + 1 + 1 + 1 + 1) t) ⟨[_, _, _, _, _, _], _, _, _, rfl, rfl, rfl⟩ ?_ ?_) ?_
    · rintro d ds ρ s ⟨is, p8, p10, p15, e1, rfl, rfl⟩
      cases is with
      | nil => cases e1
      | cons n is =>
        rw [List.map_cons] at e1
        injection e1 with e1 e3
        subst e1 e3
        have hc := hC r l b q n (Sd xs (a + 1 + 1 + 1 + 1 + 1) t) er hb
        by_cases c1 : (q : Int) * tw r ≤ n <;> by_cases c2 : n < (q : Int) * tw r + tw r <;> simp only [M.ok_ok, M.ok_no, M.oko_some, M.ok_eC, M.ok_eV0, M.ok_eVs, M.ok_e1, M.k1, M.ok_e2, M.k2a, M.k2, M.ok_evs0, M.ok_evs, M.kA, M.ok_eTup, M.ok_eLst, M.ok_eB, M.ok_eCall, M.kTup, M.kLst, M.kB, M.kCall, M.ok_eIf, M.kIfE, M.ok_eAnd, M.kAnd, M.ok_eOr, M.kOr, M.ok_eNot, M.kNotE, M.ok_eChain, M.kCh, M.kCh2, M.ok_tOfE, M.kTo, M.ok_tTru, M.kTru, M.ok_tAnd, M.ok_tOr, M.ok_tNot, M.kTAnd, M.kTOr, M.kTNot, M.ok_tYes, M.ok_pNo, M.ok_pSome, M.kPs, M.ok_eCut, M.kCut, M.kCut1, M.kCut2, M.ok_eDGet, M.kDg, M.kDg2, M.ok_sSeq, M.kSeq_nx, M.kSeq_rt, M.kSeq_bk, M.kSeq_ct, M.ok_sSet, M.kSet, M.ok_sAsg, M.kAsg, M.ok_sPar, M.kPar, M.ok_sDrop, M.kDrop, M.ok_sRet, M.kRet, M.ok_sRetN, M.ok_sNext, M.ok_sBrk, M.ok_sCnt, M.ok_sIf, M.kIf, M.kAug, M.kApp, M.ok_sFor, M.kFor, M.ok_fnM, M.kFn_rt, M.kFn_nx, M.ok_iS, M.kIS_lst, M.kIS_tup, M.ok_iR1, M.kR1, M.ok_iR2, M.kR2, M.ok_eLstRg, M.ok_eTupRg, M.kRg, M.ok_rg1, M.kRg1, M.ok_rg2, M.kRg2, M.kRg2b, M.ok_eM1, M.kM1, M.kM1b, M.ok_eComp, M.kComp, M.kComp1, M.ok_eComp2, M.kCompC, M.kCompB, M.ok_eDisp, M.kDisp, M.ok_sAug1, M.ok_sApp1, M.kApp1, M.kIt_nx, M.kIt_ct, M.kIt_bk, M.kIt_rt, M.v_sub, M.v_addI, M.v_addA, M.v_subA, M.v_lt, M.v_le, M.v_gt, M.v_ge, M.v_int, M.v_lenL, M.v_lenT, M.v_lenZ, M.v_abs, M.v_max, M.v_min, M.v_neg, M.v_ixL, M.v_ixT, M.v_ixZ, M.v_cutL, M.v_cutT, M.v_tupL, M.v_tupT, M.v_lstL, M.v_lstT, M.tr_bl, M.tr_int, M.tr_lst, M.tr_tup, M.tr_non, M.env0_go, M.g_N, M.g_T, M.g_sC, M.g_sN, M.wipe0, M.wipeS, M.ge_0, M.ge_S, List.set_cons_zero, List.set_cons_succ, List.map_cons, List.map_nil, List.cons_append, List.nil_append, List.length_cons, List.length_nil, Nat.reduceAdd, Nat.reduceSub, List.replicate_succ, List.replicate_zero, Option.bind_some, String.reduceBEq, Int.reduceBEq, Bool.or_self, if_true, if_false, Bool.false_eq_true, Bool.not_true, Bool.not_false, true_and, and_true, decide_true, decide_false, Option.map_some, M.is_non_int, M.is_non_bool, M.is_non_str, M.is_non_tuple, M.is_non_list, M.is_non_dict, M.is_bl_int, M.is_bl_bool, M.is_bl_str, M.is_bl_tuple, M.is_bl_list, M.is_bl_dict, M.is_int_int, M.is_int_bool, M.is_int_str, M.is_int_tuple, M.is_int_list, M.is_int_dict, M.is_str_int, M.is_str_bool, M.is_str_str, M.is_str_tuple, M.is_str_list, M.is_str_dict, M.is_tup_int, M.is_tup_bool, M.is_tup_str, M.is_tup_tuple, M.is_tup_list, M.is_tup_dict, M.is_lst_int, M.is_lst_bool, M.is_lst_str, M.is_lst_tuple, M.is_lst_list, M.is_lst_dict, M.isn_non, M.isn_bl, M.isn_int, M.isn_str, M.isn_tup, M.isn_lst, M.str_beq, M.f_non, M.f_bl, M.f_int, M.f_str, M.fe_str, M.fe_int, M.fe_si, M.fe_is, M.in_tup, M.in_lst, M.nin_tup, M.nin_lst, M.at_0, M.at_1, M.at_2, M.at_3, M.eq_int, M.ne_int, M.eq_bl, M.eq_nil, M.eq_str, M.ne_str, List.all_cons, List.all_nil, List.any_cons, List.any_nil, Bool.and_self, Bool.or_false, Bool.false_or, Bool.or_true, Bool.true_or, Bool.and_true, Bool.true_and, Bool.and_false, Bool.false_and, beq_self_eq_true, bne_self_eq_false, M.kCe, M.kCt, M.kForT_nx, M.kForT_ct, M.kForT_bk, M.kForT_rt, M.cut_1, M.all_1, M.all_2, M.any_1, M.any_2, M.sum_1, M.sum_2, M.all_map, M.any_map, M.sum_map, M.ok_eJs, M.ok_jsN, M.ok_jsC, M.kJs, hc, c1, c2, isn_not] <;> exact ⟨is, _, _, _, rfl, rfl⟩
    · rintro ρ s ⟨is, p8, p10, p15, e1, rfl, rfl⟩
      exact ⟨_, _, _, rfl, rfl⟩
    rintro o s ⟨p8, p10, p15, rfl, rfl⟩
    generalize a + 1 + 1 + 1 + 1 + 1 = a
    obtain ⟨lo', ql', g1⟩ := nx_nat h1 a t (2 ^ b) (Nat.two_pow_pos b)
    have g1 : g 5 [.ref 0, .int (tw b)] (Sd xs a t) = .ok (.int lo') (Sd xs (a + 1) t) := g1
    obtain ⟨hi', qh', g2⟩ := nx_nat h1 (a + 1) t (2 ^ b) (Nat.two_pow_pos b)
    have g2 : g 5 [.ref 0, .int (tw b)] (Sd xs (a + 1) t) = .ok (.int hi') (Sd xs (a + 1 + 1) t) := g2
    obtain ⟨n7, q7, g3⟩ := nx_nat h1 (a + 1 + 1) t 4 (by decide)
    have g3 : g 5 [.ref 0, .int 4] (Sd xs (a + 1 + 1) t) = .ok (.int n7) (Sd xs (a + 1 + 1 + 1) t) := g3
    have bl : 0 ≤ (lo' : Int) ∧ (lo' : Int) < tw b := by unfold tw; omega
    have bh : 0 ≤ (hi' : Int) ∧ (hi' : Int) < tw b := by unfold tw; omega
    have fin : ∀ (x y : Int) (a : Nat) (ρ' : M.Env) (Q : Out → Sto → Prop), 0 ≤ x ∧ x < tw b → 0 ≤ y ∧ y < tw b →
        (∀ p10 p13 p14, ∀ (ns' : List Int) (a' : Nat), Gd ns' 0 b → ns'.length ≤ 4096 → g 9 [.ref 0, .int b] (Sd xs a t) = .ok (.lst (ns'.map .int)) (Sd xs a' t) →
          Q (.nx [some (.scr ns), some (.ref 0), some (.int (0 + (i : Nat))), some (.int b), some (.int (tw b)), some (.int l), some (.int (tw r)), some (.int (q * tw r)), p8, o9, p10, some (.int x), some (.int y), p13, p14, p15]) (Sd xs a t)) →
        Ok (forD (gT (gsC (gN 13) (gsC (gN 14) gsN))) (PAIR g) [.tup [.int x, .int y], .tup [.int 0, .int (tw b - 1)], .tup [.int x, .int x], .tup [.int 0, .int y]] [some (.scr ns), some (.ref 0), some (.int (0 + (i : Nat))), some (.int b), some (.int (tw b)), some (.int l), some (.int (tw r)), some (.int (q * tw r)), p8, o9, p10, some (.int x), some (.int y), o13, o14, p15] (Sd xs a t)) Q := by
      intro x y a _ Q hx hy hQ
      obtain ⟨a', ns', w1, w2, w3⟩ := hS b a t hb
      refine Ok.mono (pairs_ok (g := g) (b := b) (ps := [(x, y), (0, tw b - 1), (x, x), (0, y)]) hb ?_ hO hI hG) ?_
      · intro p hp
        simp only [List.mem_cons, List.not_mem_nil, or_false] at hp
        rcases hp with rfl | rfl | rfl | rfl <;> dsimp only <;> omega
      · rintro o s ⟨rfl, p10, p13, p14, rfl⟩
        exact hQ p10 p13 p14 ns' a' w1 w2 w3
    have fe : PAIR g = (sSeq (sSet 10 (eCall (g 1) [(eV 13), (eV 14), (eV 3)])) (sIf (tOrM (tNotM (tTru (eCall (g 8) [(eV 10)]))) (tOfE (e2 oNe (e1 oList (eV 10)) (eCall (g 7) [(eC (.int 0)), (eV 4), (eLstRg (rg2 (eV 13) (e2 oAdd (eV 14) (eC (.int 1))))), (eV 3)])))) (sRet (eC (.bl false))) sNext)) := rfl
    by_cases c7 : (0 : Int) < n7
    · simp only [M.ok_ok, M.ok_no, M.oko_some, M.ok_eC, M.ok_eV0, M.ok_eVs, M.ok_e1, M.k1, M.ok_e2, M.k2a, M.k2, M.ok_evs0, M.ok_evs, M.kA, M.ok_eTup, M.ok_eLst, M.ok_eB, M.ok_eCall, M.kTup, M.kLst, M.kB, M.kCall, M.ok_eIf, M.kIfE, M.ok_eAnd, M.kAnd, M.ok_eOr, M.kOr, M.ok_eNot, M.kNotE, M.ok_eChain, M.kCh, M.kCh2, M.ok_tOfE, M.kTo, M.ok_tTru, M.kTru, M.ok_tAnd, M.ok_tOr, M.ok_tNot, M.kTAnd, M.kTOr, M.kTNot, M.ok_tYes, M.ok_pNo, M.ok_pSome, M.kPs, M.ok_eCut, M.kCut, M.kCut1, M.kCut2, M.ok_eDGet, M.kDg, M.kDg2, M.ok_sSeq, M.kSeq_nx, M.kSeq_rt, M.kSeq_bk, M.kSeq_ct, M.ok_sSet, M.kSet, M.ok_sAsg, M.kAsg, M.ok_sPar, M.kPar, M.ok_sDrop, M.kDrop, M.ok_sRet, M.kRet, M.ok_sRetN, M.ok_sNext, M.ok_sBrk, M.ok_sCnt, M.ok_sIf, M.kIf, M.kAug, M.kApp, M.ok_sFor, M.kFor, M.ok_fnM, M.kFn_rt, M.kFn_nx, M.ok_iS, M.kIS_lst, M.kIS_tup, M.ok_iR1, M.kR1, M.ok_iR2, M.kR2, M.ok_eLstRg, M.ok_eTupRg, M.kRg, M.ok_rg1, M.kRg1, M.ok_rg2, M.kRg2, M.kRg2b, M.ok_eM1, M.kM1, M.kM1b, M.ok_eComp, M.kComp, M.kComp1, M.ok_eComp2, M.kCompC, M.kCompB, M.ok_eDisp, M.kDisp, M.ok_sAug1, M.ok_sApp1, M.kApp1, M.kIt_nx, M.kIt_ct, M.kIt_bk, M.kIt_rt, M.v_sub, M.v_addI, M.v_addA, M.v_subA, M.v_lt, M.v_le, M.v_gt, M.v_ge, M.v_int, M.v_lenL, M.v_lenT, M.v_lenZ, M.v_abs, M.v_max, M.v_min, M.v_neg, M.v_ixL, M.v_ixT, M.v_ixZ, M.v_cutL, M.v_cutT, M.v_tupL, M.v_tupT, M.v_lstL, M.v_lstT, M.tr_bl, M.tr_int, M.tr_lst, M.tr_tup, M.tr_non, M.env0_go, M.g_N, M.g_T, M.g_sC, M.g_sN, M.wipe0, M.wipeS, M.ge_0, M.ge_S, List.set_cons_zero, List.set_cons_succ, List.map_cons, List.map_nil, List.cons_append, List.nil_append, List.length_cons, List.length_nil, Nat.reduceAdd, Nat.reduceSub, List.replicate_succ, List.replicate_zero, Option.bind_some, String.reduceBEq, Int.reduceBEq, Bool.or_self, if_true, if_false, Bool.false_eq_true, Bool.not_true, Bool.not_false, true_and, and_true, decide_true, decide_false, Option.map_some, M.is_non_int, M.is_non_bool, M.is_non_str, M.is_non_tuple, M.is_non_list, M.is_non_dict, M.is_bl_int, M.is_bl_bool, M.is_bl_str, M.is_bl_tuple, M.is_bl_list, M.is_bl_dict, M.is_int_int, M.is_int_bool, M.is_int_str, M.is_int_tuple, M.is_int_list, M.is_int_dict, M.is_str_int, M.is_str_bool, M.is_str_str, M.is_str_tuple, M.is_str_list, M.is_str_dict, M.is_tup_int, M.is_tup_bool, M.is_tup_str, M.is_tup_tuple, M.is_tup_list, M.is_tup_dict, M.is_lst_int, M.is_lst_bool, M.is_lst_str, M.is_lst_tuple, M.is_lst_list, M.is_lst_dict, M.isn_non, M.isn_bl, M.isn_int, M.isn_str, M.isn_tup, M.isn_lst, M.str_beq, M.f_non, M.f_bl, M.f_int, M.f_str, M.fe_str, M.fe_int, M.fe_si, M.fe_is, M.in_tup, M.in_lst, M.nin_tup, M.nin_lst, M.at_0, M.at_1, M.at_2, M.at_3, M.eq_int, M.ne_int, M.eq_bl, M.eq_nil, M.eq_str, M.ne_str, List.all_cons, List.all_nil, List.any_cons, List.any_nil, Bool.and_self, Bool.or_false, Bool.false_or, Bool.or_true, Bool.true_or, Bool.and_true, Bool.true_and, Bool.and_false, Bool.false_and, beq_self_eq_true, bne_self_eq_false, M.kCe, M.kCt, M.kForT_nx, M.kForT_ct, M.kForT_bk, M.kForT_rt, M.cut_1, M.all_1, M.all_2, M.any_1, M.any_2, M.sum_1, M.sum_2, M.all_map, M.any_map, M.sum_map, M.ok_eJs, M.ok_jsN, M.ok_jsC, M.kJs, g1, g2, g3, c7]
      rw [← fe]
      refine fin _ _ _ [] _ (by split <;> omega) (by split <;> omega) ?_
      intro p10 p13 p14 ns' a' w1 w2 w3
      simp only [M.ok_ok, M.ok_no, M.oko_some, M.ok_eC, M.ok_eV0, M.ok_eVs, M.ok_e1, M.k1, M.ok_e2, M.k2a, M.k2, M.ok_evs0, M.ok_evs, M.kA, M.ok_eTup, M.ok_eLst, M.ok_eB, M.ok_eCall, M.kTup, M.kLst, M.kB, M.kCall, M.ok_eIf, M.kIfE, M.ok_eAnd, M.kAnd, M.ok_eOr, M.kOr, M.ok_eNot, M.kNotE, M.ok_eChain, M.kCh, M.kCh2, M.ok_tOfE, M.kTo, M.ok_tTru, M.kTru, M.ok_tAnd, M.ok_tOr, M.ok_tNot, M.kTAnd, M.kTOr, M.kTNot, M.ok_tYes, M.ok_pNo, M.ok_pSome, M.kPs, M.ok_eCut, M.kCut, M.kCut1, M.kCut2, M.ok_eDGet, M.kDg, M.kDg2, M.ok_sSeq, M.kSeq_nx, M.kSeq_rt, M.kSeq_bk, M.kSeq_ct, M.ok_sSet, M.kSet, M.ok_sAsg, M.kAsg, M.ok_sPar, M.kPar, M.ok_sDrop, M.kDrop, M.ok_sRet, M.kRet, M.ok_sRetN, M.ok_sNext, M.ok_sBrk, M.ok_sCnt, M.ok_sIf, M.kIf, M.kAug, M.kApp, M.ok_sFor, M.kFor, M.ok_fnM, M.kFn_rt, M.kFn_nx, M.ok_iS, M.kIS_lst, M.kIS_tup, M.ok_iR1, M.kR1, M.ok_iR2, M.kR2, M.ok_eLstRg, M.ok_eTupRg, M.kRg, M.ok_rg1, M.kRg1, M.ok_rg2, M.kRg2, M.kRg2b, M.ok_eM1, M.kM1, M.kM1b, M.ok_eComp, M.kComp, M.kComp1, M.ok_eComp2, M.kCompC, M.kCompB, M.ok_eDisp, M.kDisp, M.ok_sAug1, M.ok_sApp1, M.kApp1, M.kIt_nx, M.kIt_ct, M.kIt_bk, M.kIt_rt, M.v_sub, M.v_addI, M.v_addA, M.v_subA, M.v_lt, M.v_le, M.v_gt, M.v_ge, M.v_int, M.v_lenL, M.v_lenT, M.v_lenZ, M.v_abs, M.v_max, M.v_min, M.v_neg, M.v_ixL, M.v_ixT, M.v_ixZ, M.v_cutL, M.v_cutT, M.v_tupL, M.v_tupT, M.v_lstL, M.v_lstT, M.tr_bl, M.tr_int, M.tr_lst, M.tr_tup, M.tr_non, M.env0_go, M.g_N, M.g_T, M.g_sC, M.g_sN, M.wipe0, M.wipeS, M.ge_0, M.ge_S, List.set_cons_zero, List.set_cons_succ, List.map_cons, List.map_nil, List.cons_append, List.nil_append, List.length_cons, List.length_nil, Nat.reduceAdd, Nat.reduceSub, List.replicate_succ, List.replicate_zero, Option.bind_some, String.reduceBEq, Int.reduceBEq, Bool.or_self, if_true, if_false, Bool.false_eq_true, Bool.not_true, Bool.not_false, true_and, and_true, decide_true, decide_false, Option.map_some, M.is_non_int, M.is_non_bool, M.is_non_str, M.is_non_tuple, M.is_non_list, M.is_non_dict, M.is_bl_int, M.is_bl_bool, M.is_bl_str, M.is_bl_tuple, M.is_bl_list, M.is_bl_dict, M.is_int_int, M.is_int_bool, M.is_int_str, M.is_int_tuple, M.is_int_list, M.is_int_dict, M.is_str_int, M.is_str_bool, M.is_str_str, M.is_str_tuple, M.is_str_list, M.is_str_dict, M.is_tup_int, M.is_tup_bool, M.is_tup_str, M.is_tup_tuple, M.is_tup_list, M.is_tup_dict, M.is_lst_int, M.is_lst_bool, M.is_lst_str, M.is_lst_tuple, M.is_lst_list, M.is_lst_dict, M.isn_non, M.isn_bl, M.isn_int, M.isn_str, M.isn_tup, M.isn_lst, M.str_beq, M.f_non, M.f_bl, M.f_int, M.f_str, M.fe_str, M.fe_int, M.fe_si, M.fe_is, M.in_tup, M.in_lst, M.nin_tup, M.nin_lst, M.at_0, M.at_1, M.at_2, M.at_3, M.eq_int, M.ne_int, M.eq_bl, M.eq_nil, M.eq_str, M.ne_str, List.all_cons, List.all_nil, List.any_cons, List.any_nil, Bool.and_self, Bool.or_false, Bool.false_or, Bool.or_true, Bool.true_or, Bool.and_true, Bool.true_and, Bool.and_false, Bool.false_and, beq_self_eq_true, bne_self_eq_false, M.kCe, M.kCt, M.kForT_nx, M.kForT_ct, M.kForT_bk, M.kForT_rt, M.cut_1, M.all_1, M.all_2, M.any_1, M.any_2, M.sum_1, M.sum_2, M.all_map, M.any_map, M.sum_map, M.ok_eJs, M.ok_jsN, M.ok_jsC, M.kJs, w3, hP b ns' _ hb w1 w2, hI, hG b ns' _ hb w1 w2, ne_pairs]
      exact ⟨_, _, _, _, _, _, _, _, _, _, _, _, _, _, _, _, rfl, rfl⟩
    · simp only [M.ok_ok, M.ok_no, M.oko_some, M.ok_eC, M.ok_eV0, M.ok_eVs, M.ok_e1, M.k1, M.ok_e2, M.k2a, M.k2, M.ok_evs0, M.ok_evs, M.kA, M.ok_eTup, M.ok_eLst, M.ok_eB, M.ok_eCall, M.kTup, M.kLst, M.kB, M.kCall, M.ok_eIf, M.kIfE, M.ok_eAnd, M.kAnd, M.ok_eOr, M.kOr, M.ok_eNot, M.kNotE, M.ok_eChain, M.kCh, M.kCh2, M.ok_tOfE, M.kTo, M.ok_tTru, M.kTru, M.ok_tAnd, M.ok_tOr, M.ok_tNot, M.kTAnd, M.kTOr, M.kTNot, M.ok_tYes, M.ok_pNo, M.ok_pSome, M.kPs, M.ok_eCut, M.kCut, M.kCut1, M.kCut2, M.ok_eDGet, M.kDg, M.kDg2, M.ok_sSeq, M.kSeq_nx, M.kSeq_rt, M.kSeq_bk, M.kSeq_ct, M.ok_sSet, M.kSet, M.ok_sAsg, M.kAsg, M.ok_sPar, M.kPar, M.ok_sDrop, M.kDrop, M.ok_sRet, M.kRet, M.ok_sRetN, M.ok_sNext, M.ok_sBrk, M.ok_sCnt, M.ok_sIf, M.kIf, M.kAug, M.kApp, M.ok_sFor, M.kFor, M.ok_fnM, M.kFn_rt, M.kFn_nx, M.ok_iS, M.kIS_lst, M.kIS_tup, M.ok_iR1, M.kR1, M.ok_iR2, M.kR2, M.ok_eLstRg, M.ok_eTupRg, M.kRg, M.ok_rg1, M.kRg1, M.ok_rg2, M.kRg2, M.kRg2b, M.ok_eM1, M.kM1, M.kM1b, M.ok_eComp, M.kComp, M.kComp1, M.ok_eComp2, M.kCompC, M.kCompB, M.ok_eDisp, M.kDisp, M.ok_sAug1, M.ok_sApp1, M.kApp1, M.kIt_nx, M.kIt_ct, M.kIt_bk, M.kIt_rt, M.v_sub, M.v_addI, M.v_addA, M.v_subA, M.v_lt, M.v_le, M.v_gt, M.v_ge, M.v_int, M.v_lenL, M.v_lenT, M.v_lenZ, M.v_abs, M.v_max, M.v_min, M.v_neg, M.v_ixL, M.v_ixT, M.v_ixZ, M.v_cutL, M.v_cutT, M.v_tupL, M.v_tupT, M.v_lstL, M.v_lstT, M.tr_bl, M.tr_int, M.tr_lst, M.tr_tup, M.tr_non, M.env0_go, M.g_N, M.g_T, M.g_sC, M.g_sN, M.wipe0, M.wipeS, M.ge_0, M.ge_S, List.set_cons_zero, List.set_cons_succ, List.map_cons, List.map_nil, List.cons_append, List.nil_append, List.length_cons, List.length_nil, Nat.reduceAdd, Nat.reduceSub, List.replicate_succ, List.replicate_zero, Option.bind_some, String.reduceBEq, Int.reduceBEq, Bool.or_self, if_true, if_false, Bool.false_eq_true, Bool.not_true, Bool.not_false, true_and, and_true, decide_true, decide_false, Option.map_some, M.is_non_int, M.is_non_bool, M.is_non_str, M.is_non_tuple, M.is_non_list, M.is_non_dict, M.is_bl_int, M.is_bl_bool, M.is_bl_str, M.is_bl_tuple, M.is_bl_list, M.is_bl_dict, M.is_int_int, M.is_int_bool, M.is_int_str, M.is_int_tuple, M.is_int_list, M.is_int_dict, M.is_str_int, M.is_str_bool, M.is_str_str, M.is_str_tuple, M.is_str_list, M.is_str_dict, M.is_tup_int, M.is_tup_bool, M.is_tup_str, M.is_tup_tuple, M.is_tup_list, M.is_tup_dict, M.is_lst_int, M.is_lst_bool, M.is_lst_str, M.is_lst_tuple, M.is_lst_list, M.is_lst_dict, M.isn_non, M.isn_bl, M.isn_int, M.isn_str, M.isn_tup, M.isn_lst, M.str_beq, M.f_non, M.f_bl, M.f_int, M.f_str, M.fe_str, M.fe_int, M.fe_si, M.fe_is, M.in_tup, M.in_lst, M.nin_tup, M.nin_lst, M.at_0, M.at_1, M.at_2, M.at_3, M.eq_int, M.ne_int, M.eq_bl, M.eq_nil, M.eq_str, M.ne_str, List.all_cons, List.all_nil, List.any_cons, List.any_nil, Bool.and_self, Bool.or_false, Bool.false_or, Bool.or_true, Bool.true_or, Bool.and_true, Bool.true_and, Bool.and_false, Bool.false_and, beq_self_eq_true, bne_self_eq_false, M.kCe, M.kCt, M.kForT_nx, M.kForT_ct, M.kForT_bk, M.kForT_rt, M.cut_1, M.all_1, M.all_2, M.any_1, M.any_2, M.sum_1, M.sum_2, M.all_map, M.any_map, M.sum_map, M.ok_eJs, M.ok_jsN, M.ok_jsC, M.kJs, g1, g2, g3, c7]
      rw [← fe]
      refine fin _ _ _ [] _ bl bh ?_
      intro p10 p13 p14 ns' a' w1 w2 w3
      simp only [M.ok_ok, M.ok_no, M.oko_some, M.ok_eC, M.ok_eV0, M.ok_eVs, M.ok_e1, M.k1, M.ok_e2, M.k2a, M.k2, M.ok_evs0, M.ok_evs, M.kA, M.ok_eTup, M.ok_eLst, M.ok_eB, M.ok_eCall, M.kTup, M.kLst, M.kB, M.kCall, M.ok_eIf, M.kIfE, M.ok_eAnd, M.kAnd, M.ok_eOr, M.kOr, M.ok_eNot, M.kNotE, M.ok_eChain, M.kCh, M.kCh2, M.ok_tOfE, M.kTo, M.ok_tTru, M.kTru, M.ok_tAnd, M.ok_tOr, M.ok_tNot, M.kTAnd, M.kTOr, M.kTNot, M.ok_tYes, M.ok_pNo, M.ok_pSome, M.kPs, M.ok_eCut, M.kCut, M.kCut1, M.kCut2, M.ok_eDGet, M.kDg, M.kDg2, M.ok_sSeq, M.kSeq_nx, M.kSeq_rt, M.kSeq_bk, M.kSeq_ct, M.ok_sSet, M.kSet, M.ok_sAsg, M.kAsg, M.ok_sPar, M.kPar, M.ok_sDrop, M.kDrop, M.ok_sRet, M.kRet, M.ok_sRetN, M.ok_sNext, M.ok_sBrk, M.ok_sCnt, M.ok_sIf, M.kIf, M.kAug, M.kApp, M.ok_sFor, M.kFor, M.ok_fnM, M.kFn_rt, M.kFn_nx, M.ok_iS, M.kIS_lst, M.kIS_tup, M.ok_iR1, M.kR1, M.ok_iR2, M.kR2, M.ok_eLstRg, M.ok_eTupRg, M.kRg, M.ok_rg1, M.kRg1, M.ok_rg2, M.kRg2, M.kRg2b, M.ok_eM1, M.kM1, M.kM1b, M.ok_eComp, M.kComp, M.kComp1, M.ok_eComp2, M.kCompC, M.kCompB, M.ok_eDisp, M.kDisp, M.ok_sAug1, M.ok_sApp1, M.kApp1, M.kIt_nx, M.kIt_ct, M.kIt_bk, M.kIt_rt, M.v_sub, M.v_addI, M.v_addA, M.v_subA, M.v_lt, M.v_le, M.v_gt, M.v_ge, M.v_int, M.v_lenL, M.v_lenT, M.v_lenZ, M.v_abs, M.v_max, M.v_min, M.v_neg, M.v_ixL, M.v_ixT, M.v_ixZ, M.v_cutL, M.v_cutT, M.v_tupL, M.v_tupT, M.v_lstL, M.v_lstT, M.tr_bl, M.tr_int, M.tr_lst, M.tr_tup, M.tr_non, M.env0_go, M.g_N, M.g_T, M.g_sC, M.g_sN, M.wipe0, M.wipeS, M.ge_0, M.ge_S, List.set_cons_zero, List.set_cons_succ, List.map_cons, List.map_nil, List.cons_append, List.nil_append, List.length_cons, List.length_nil, Nat.reduceAdd, Nat.reduceSub, List.replicate_succ, List.replicate_zero, Option.bind_some, String.reduceBEq, Int.reduceBEq, Bool.or_self, if_true, if_false, Bool.false_eq_true, Bool.not_true, Bool.not_false, true_and, and_true, decide_true, decide_false, Option.map_some, M.is_non_int, M.is_non_bool, M.is_non_str, M.is_non_tuple, M.is_non_list, M.is_non_dict, M.is_bl_int, M.is_bl_bool, M.is_bl_str, M.is_bl_tuple, M.is_bl_list, M.is_bl_dict, M.is_int_int, M.is_int_bool, M.is_int_str, M.is_int_tuple, M.is_int_list, M.is_int_dict, M.is_str_int, M.is_str_bool, M.is_str_str, M.is_str_tuple, M.is_str_list, M.is_str_dict, M.is_tup_int, M.is_tup_bool, M.is_tup_str, M.is_tup_tuple, M.is_tup_list, M.is_tup_dict, M.is_lst_int, M.is_lst_bool, M.is_lst_str, M.is_lst_tuple, M.is_lst_list, M.is_lst_dict, M.isn_non, M.isn_bl, M.isn_int, M.isn_str, M.isn_tup, M.isn_lst, M.str_beq, M.f_non, M.f_bl, M.f_int, M.f_str, M.fe_str, M.fe_int, M.fe_si, M.fe_is, M.in_tup, M.in_lst, M.nin_tup, M.nin_lst, M.at_0, M.at_1, M.at_2, M.at_3, M.eq_int, M.ne_int, M.eq_bl, M.eq_nil, M.eq_str, M.ne_str, List.all_cons, List.all_nil, List.any_cons, List.any_nil, Bool.and_self, Bool.or_false, Bool.false_or, Bool.or_true, Bool.true_or, Bool.and_true, Bool.true_and, Bool.and_false, Bool.false_and, beq_self_eq_true, bne_self_eq_false, M.kCe, M.kCt, M.kForT_nx, M.kForT_ct, M.kForT_bk, M.kForT_rt, M.cut_1, M.all_1, M.all_2, M.any_1, M.any_2, M.sum_1, M.sum_2, M.all_map, M.any_map, M.sum_map, M.ok_eJs, M.ok_jsN, M.ok_jsC, M.kJs, w3, hP b ns' _ hb w1 w2, hI, hG b ns' _ hb w1 w2, ne_pairs]
      exact ⟨_, _, _, _, _, _, _, _, _, _, _, _, _, _, _, _, rfl, rfl⟩
  · rintro ρ s ⟨a, t, o2, o3, o4, o5, o6, o7, o8, o9, o10, o11, o12, o13, o14, o15, rfl, rfl⟩
    simp only [M.ok_ok, M.ok_no, M.oko_some, M.ok_eC, M.ok_eV0, M.ok_eVs, M.ok_e1, M.k1, M.ok_e2, M.k2a, M.k2, M.ok_evs0, M.ok_evs, M.kA, M.ok_eTup, M.ok_eLst, M.ok_eB, M.ok_eCall, M.kTup, M.kLst, M.kB, M.kCall, M.ok_eIf, M.kIfE, M.ok_eAnd, M.kAnd, M.ok_eOr, M.kOr, M.ok_eNot, M.kNotE, M.ok_eChain, M.kCh, M.kCh2, M.ok_tOfE, M.kTo, M.ok_tTru, M.kTru, M.ok_tAnd, M.ok_tOr, M.ok_tNot, M.kTAnd, M.kTOr, M.kTNot, M.ok_tYes, M.ok_pNo, M.ok_pSome, M.kPs, M.ok_eCut, M.kCut, M.kCut1, M.kCut2, M.ok_eDGet, M.kDg, M.kDg2, M.ok_sSeq, M.kSeq_nx, M.kSeq_rt, M.kSeq_bk, M.kSeq_ct, M.ok_sSet, M.kSet, M.ok_sAsg, M.kAsg, M.ok_sPar, M.kPar, M.ok_sDrop, M.kDrop, M.ok_sRet, M.kRet, M.ok_sRetN, M.ok_sNext, M.ok_sBrk, M.ok_sCnt, M.ok_sIf, M.kIf, M.kAug, M.kApp, M.ok_sFor, M.kFor, M.ok_fnM, M.kFn_rt, M.kFn_nx, M.ok_iS, M.kIS_lst, M.kIS_tup, M.ok_iR1, M.kR1, M.ok_iR2, M.kR2, M.ok_eLstRg, M.ok_eTupRg, M.kRg, M.ok_rg1, M.kRg1, M.ok_rg2, M.kRg2, M.kRg2b, M.ok_eM1, M.kM1, M.kM1b, M.ok_eComp, M.kComp, M.kComp1, M.ok_eComp2, M.kCompC, M.kCompB, M.ok_eDisp, M.kDisp, M.ok_sAug1, M.ok_sApp1, M.kApp1, M.kIt_nx, M.kIt_ct, M.kIt_bk, M.kIt_rt, M.v_sub, M.v_addI, M.v_addA, M.v_subA, M.v_lt, M.v_le, M.v_gt, M.v_ge, M.v_int, M.v_lenL, M.v_lenT, M.v_lenZ, M.v_abs, M.v_max, M.v_min, M.v_neg, M.v_ixL, M.v_ixT, M.v_ixZ, M.v_cutL, M.v_cutT, M.v_tupL, M.v_tupT, M.v_lstL, M.v_lstT, M.tr_bl, M.tr_int, M.tr_lst, M.tr_tup, M.tr_non, M.env0_go, M.g_N, M.g_T, M.g_sC, M.g_sN, M.wipe0, M.wipeS, M.ge_0, M.ge_S, List.set_cons_zero, List.set_cons_succ, List.map_cons, List.map_nil, List.cons_append, List.nil_append, List.length_cons, List.length_nil, Nat.reduceAdd, Nat.reduceSub, List.replicate_succ, List.replicate_zero, Option.bind_some, String.reduceBEq, Int.reduceBEq, Bool.or_self, if_true, if_false, Bool.false_eq_true, Bool.not_true, Bool.not_false, true_and, and_true, decide_true, decide_false, Option.map_some, M.is_non_int, M.is_non_bool, M.is_non_str, M.is_non_tuple, M.is_non_list, M.is_non_dict, M.is_bl_int, M.is_bl_bool, M.is_bl_str, M.is_bl_tuple, M.is_bl_list, M.is_bl_dict, M.is_int_int, M.is_int_bool, M.is_int_str, M.is_int_tuple, M.is_int_list, M.is_int_dict, M.is_str_int, M.is_str_bool, M.is_str_str, M.is_str_tuple, M.is_str_list, M.is_str_dict, M.is_tup_int, M.is_tup_bool, M.is_tup_str, M.is_tup_tuple, M.is_tup_list, M.is_tup_dict, M.is_lst_int, M.is_lst_bool, M.is_lst_str, M.is_lst_tuple, M.is_lst_list, M.is_lst_dict, M.isn_non, M.isn_bl, M.isn_int, M.isn_str, M.isn_tup, M.isn_lst, M.str_beq, M.f_non, M.f_bl, M.f_int, M.f_str, M.fe_str, M.fe_int, M.fe_si, M.fe_is, M.in_tup, M.in_lst, M.nin_tup, M.nin_lst, M.at_0, M.at_1, M.at_2, M.at_3, M.eq_int, M.ne_int, M.eq_bl, M.eq_nil, M.eq_str, M.ne_str, List.all_cons, List.all_nil, List.any_cons, List.any_nil, Bool.and_self, Bool.or_false, Bool.false_or, Bool.or_true, Bool.true_or, Bool.and_true, Bool.true_and, Bool.and_false, Bool.false_and, beq_self_eq_true, bne_self_eq_false, M.kCe, M.kCt, M.kForT_nx, M.kForT_ct, M.kForT_bk, M.kForT_rt, M.cut_1, M.all_1, M.all_2, M.any_1, M.any_2, M.sum_1, M.sum_2, M.all_map, M.any_map, M.sum_map, M.ok_eJs, M.ok_jsN, M.ok_jsC, M.kJs]
end Ob
namespace Ob
open PySem PySem.Spec PyProof.Rows L2 M
def Wc : Nat := 1000000000
def Kc : Nat := 230
theorem room : Room Kc callerA := ⟨rfl, by decide, by decide⟩
theorem good (ns : List Int) (h : ns.length ≤ 63) : ∃ s', G Wc Kc 10 [.scr ns] [] = .ok (.bl true) s' := by
  obtain ⟨v, s, e, rfl⟩ := (law_ok (W := Wc) (k := 229) h (by decide)).get
  exact ⟨s, e⟩
end Ob
namespace Ob
open PySem PySem.Spec PyProof.Rows L2 M
theorem all_mk {P : Program} {w : World} {K : PySem.W.Frag} {h : Heap} {mg : Str → Option Value} {W kk : Nat} {fa : Addr} {f_covers f_prefixes_of f_prefixes_of_set f__prefixes f__law_draws f__law_next f__law_pick f__law_greatest f__law_is_prefixes f__law_some f_law : Addr} (X : K.In h)  (Gn : h.Ns mainGlobals mg) (hfa : mg "law" = some (.ref fa))
    {oc_covers kV_covers dc_covers pm_covers cd_covers ct_covers oc_prefixes_of kV_prefixes_of dc_prefixes_of pm_prefixes_of cd_prefixes_of ct_prefixes_of oc_prefixes_of_set kV_prefixes_of_set dc_prefixes_of_set pm_prefixes_of_set cd_prefixes_of_set ct_prefixes_of_set oc__prefixes kV__prefixes dc__prefixes pm__prefixes cd__prefixes ct__prefixes oc__law_draws kV__law_draws dc__law_draws pm__law_draws cd__law_draws ct__law_draws oc__law_next kV__law_next dc__law_next pm__law_next cd__law_next ct__law_next oc__law_pick kV__law_pick dc__law_pick pm__law_pick cd__law_pick ct__law_pick oc__law_greatest kV__law_greatest dc__law_greatest pm__law_greatest cd__law_greatest ct__law_greatest oc__law_is_prefixes kV__law_is_prefixes dc__law_is_prefixes pm__law_is_prefixes cd__law_is_prefixes ct__law_is_prefixes oc__law_some kV__law_some dc__law_some pm__law_some cd__law_some ct__law_some oc_law kV_law dc_law pm_law cd_law ct_law : Value} {od_covers an_covers od_prefixes_of an_prefixes_of od_prefixes_of_set an_prefixes_of_set od__prefixes an__prefixes od__law_draws an__law_draws od__law_next an__law_next od__law_pick an__law_pick od__law_greatest an__law_greatest od__law_is_prefixes an__law_is_prefixes od__law_some an__law_some od_law an_law : Option Addr} {sl_covers sl_prefixes_of sl_prefixes_of_set sl__prefixes sl__law_draws sl__law_next sl__law_pick sl__law_greatest sl__law_is_prefixes sl__law_some sl_law : Array (Option Value)}
    (a_covers : PySem.W.nsIn K mainGlobals "covers" = some (some (.ref f_covers)))
    (l_covers : K.lookup f_covers = some ⟨oc_covers, od_covers, .func (PySem.W.fnOf "covers" "covers" (defArgs st_covers) (defBody st_covers) (defScope st_covers) .none kV_covers dc_covers pm_covers an_covers cd_covers ct_covers), sl_covers⟩)
    (c_covers : PySem.W.codeIn K cd_covers "covers" = true)
    (k_covers : PySem.W.keepIn K (.ref f_covers) = true)
    (a_prefixes_of : PySem.W.nsIn K mainGlobals "prefixes_of" = some (some (.ref f_prefixes_of)))
    (l_prefixes_of : K.lookup f_prefixes_of = some ⟨oc_prefixes_of, od_prefixes_of, .func (PySem.W.fnOf "prefixes_of" "prefixes_of" (defArgs st_prefixes_of) (defBody st_prefixes_of) (defScope st_prefixes_of) .none kV_prefixes_of dc_prefixes_of pm_prefixes_of an_prefixes_of cd_prefixes_of ct_prefixes_of), sl_prefixes_of⟩)
    (c_prefixes_of : PySem.W.codeIn K cd_prefixes_of "prefixes_of" = true)
    (k_prefixes_of : PySem.W.keepIn K (.ref f_prefixes_of) = true)
    (a_prefixes_of_set : PySem.W.nsIn K mainGlobals "prefixes_of_set" = some (some (.ref f_prefixes_of_set)))
    (l_prefixes_of_set : K.lookup f_prefixes_of_set = some ⟨oc_prefixes_of_set, od_prefixes_of_set, .func (PySem.W.fnOf "prefixes_of_set" "prefixes_of_set" (defArgs st_prefixes_of_set) (defBody st_prefixes_of_set) (defScope st_prefixes_of_set) .none kV_prefixes_of_set dc_prefixes_of_set pm_prefixes_of_set an_prefixes_of_set cd_prefixes_of_set ct_prefixes_of_set), sl_prefixes_of_set⟩)
    (c_prefixes_of_set : PySem.W.codeIn K cd_prefixes_of_set "prefixes_of_set" = true)
    (k_prefixes_of_set : PySem.W.keepIn K (.ref f_prefixes_of_set) = true)
    (a__prefixes : PySem.W.nsIn K mainGlobals "_prefixes" = some (some (.ref f__prefixes)))
    (l__prefixes : K.lookup f__prefixes = some ⟨oc__prefixes, od__prefixes, .func (PySem.W.fnOf "_prefixes" "_prefixes" (defArgs st__prefixes) (defBody st__prefixes) (defScope st__prefixes) .none kV__prefixes dc__prefixes pm__prefixes an__prefixes cd__prefixes ct__prefixes), sl__prefixes⟩)
    (c__prefixes : PySem.W.codeIn K cd__prefixes "_prefixes" = true)
    (k__prefixes : PySem.W.keepIn K (.ref f__prefixes) = true)
    (a__law_draws : PySem.W.nsIn K mainGlobals "_law_draws" = some (some (.ref f__law_draws)))
    (l__law_draws : K.lookup f__law_draws = some ⟨oc__law_draws, od__law_draws, .func (PySem.W.fnOf "_law_draws" "_law_draws" (defArgs st__law_draws) (defBody st__law_draws) (defScope st__law_draws) .none kV__law_draws dc__law_draws pm__law_draws an__law_draws cd__law_draws ct__law_draws), sl__law_draws⟩)
    (c__law_draws : PySem.W.codeIn K cd__law_draws "_law_draws" = true)
    (k__law_draws : PySem.W.keepIn K (.ref f__law_draws) = true)
    (a__law_next : PySem.W.nsIn K mainGlobals "_law_next" = some (some (.ref f__law_next)))
    (l__law_next : K.lookup f__law_next = some ⟨oc__law_next, od__law_next, .func (PySem.W.fnOf "_law_next" "_law_next" (defArgs st__law_next) (defBody st__law_next) (defScope st__law_next) .none kV__law_next dc__law_next pm__law_next an__law_next cd__law_next ct__law_next), sl__law_next⟩)
    (c__law_next : PySem.W.codeIn K cd__law_next "_law_next" = true)
    (k__law_next : PySem.W.keepIn K (.ref f__law_next) = true)
    (a__law_pick : PySem.W.nsIn K mainGlobals "_law_pick" = some (some (.ref f__law_pick)))
    (l__law_pick : K.lookup f__law_pick = some ⟨oc__law_pick, od__law_pick, .func (PySem.W.fnOf "_law_pick" "_law_pick" (defArgs st__law_pick) (defBody st__law_pick) (defScope st__law_pick) .none kV__law_pick dc__law_pick pm__law_pick an__law_pick cd__law_pick ct__law_pick), sl__law_pick⟩)
    (c__law_pick : PySem.W.codeIn K cd__law_pick "_law_pick" = true)
    (k__law_pick : PySem.W.keepIn K (.ref f__law_pick) = true)
    (a__law_greatest : PySem.W.nsIn K mainGlobals "_law_greatest" = some (some (.ref f__law_greatest)))
    (l__law_greatest : K.lookup f__law_greatest = some ⟨oc__law_greatest, od__law_greatest, .func (PySem.W.fnOf "_law_greatest" "_law_greatest" (defArgs st__law_greatest) (defBody st__law_greatest) (defScope st__law_greatest) .none kV__law_greatest dc__law_greatest pm__law_greatest an__law_greatest cd__law_greatest ct__law_greatest), sl__law_greatest⟩)
    (c__law_greatest : PySem.W.codeIn K cd__law_greatest "_law_greatest" = true)
    (k__law_greatest : PySem.W.keepIn K (.ref f__law_greatest) = true)
    (a__law_is_prefixes : PySem.W.nsIn K mainGlobals "_law_is_prefixes" = some (some (.ref f__law_is_prefixes)))
    (l__law_is_prefixes : K.lookup f__law_is_prefixes = some ⟨oc__law_is_prefixes, od__law_is_prefixes, .func (PySem.W.fnOf "_law_is_prefixes" "_law_is_prefixes" (defArgs st__law_is_prefixes) (defBody st__law_is_prefixes) (defScope st__law_is_prefixes) .none kV__law_is_prefixes dc__law_is_prefixes pm__law_is_prefixes an__law_is_prefixes cd__law_is_prefixes ct__law_is_prefixes), sl__law_is_prefixes⟩)
    (c__law_is_prefixes : PySem.W.codeIn K cd__law_is_prefixes "_law_is_prefixes" = true)
    (k__law_is_prefixes : PySem.W.keepIn K (.ref f__law_is_prefixes) = true)
    (a__law_some : PySem.W.nsIn K mainGlobals "_law_some" = some (some (.ref f__law_some)))
    (l__law_some : K.lookup f__law_some = some ⟨oc__law_some, od__law_some, .func (PySem.W.fnOf "_law_some" "_law_some" (defArgs st__law_some) (defBody st__law_some) (defScope st__law_some) .none kV__law_some dc__law_some pm__law_some an__law_some cd__law_some ct__law_some), sl__law_some⟩)
    (c__law_some : PySem.W.codeIn K cd__law_some "_law_some" = true)
    (k__law_some : PySem.W.keepIn K (.ref f__law_some) = true)
    (a_law : PySem.W.nsIn K mainGlobals "law" = some (some (.ref f_law)))
    (l_law : K.lookup f_law = some ⟨oc_law, od_law, .func (PySem.W.fnOf "law" "law" (defArgs st_law) (defBody st_law) (defScope st_law) .none kV_law dc_law pm_law an_law cd_law ct_law), sl_law⟩)
    (c_law : PySem.W.codeIn K cd_law "law" = true)
    (k_law : PySem.W.keepIn K (.ref f_law) = true)
    (z_tuple : PySem.W.nsIn K mainGlobals "tuple" = some none)
    (z_range : PySem.W.nsIn K mainGlobals "range" = some none)
    (z_list : PySem.W.nsIn K mainGlobals "list" = some none)
    (z_len : PySem.W.nsIn K mainGlobals "len" = some none)
    (z_abs : PySem.W.nsIn K mainGlobals "abs" = some none)
    (z_int : PySem.W.nsIn K mainGlobals "int" = some none)
    (z_isinstance : PySem.W.nsIn K mainGlobals "isinstance" = some none)
    (z_bool : PySem.W.nsIn K mainGlobals "bool" = some none)
    (z_sorted : PySem.W.nsIn K mainGlobals "sorted" = some none)
    (z_set : PySem.W.nsIn K mainGlobals "set" = some none)
    (z_min : PySem.W.nsIn K mainGlobals "min" = some none)
    (z_max : PySem.W.nsIn K mainGlobals "max" = some none)
    : ∃ fd : FuncData, (∀ (s : Shared) (v : Value), BindsTo s fd ⟨[v], []⟩ [("script", v)]) ∧ ∀ base : Heap, K.In base → base.Ns mainGlobals mg → FnOk P w K mg base CX0 kk fa fd ["script"] (spD ⟨w, fun _ => none⟩ K (fun _ => none) 1 1 (G W kk 10)) := by
  have e := hfa.symm.trans (PySem.W.mg_of X Gn a_law)
  cases e
  have F_covers := fun_mk (st := st_covers) l_covers c_covers k_covers
  have F_prefixes_of := fun_mk (st := st_prefixes_of) l_prefixes_of c_prefixes_of k_prefixes_of
  have F_prefixes_of_set := fun_mk (st := st_prefixes_of_set) l_prefixes_of_set c_prefixes_of_set k_prefixes_of_set
  have F__prefixes := fun_mk (st := st__prefixes) l__prefixes c__prefixes k__prefixes
  have F__law_draws := fun_mk (st := st__law_draws) l__law_draws c__law_draws k__law_draws
  have F__law_next := fun_mk (st := st__law_next) l__law_next c__law_next k__law_next
  have F__law_pick := fun_mk (st := st__law_pick) l__law_pick c__law_pick k__law_pick
  have F__law_greatest := fun_mk (st := st__law_greatest) l__law_greatest c__law_greatest k__law_greatest
  have F__law_is_prefixes := fun_mk (st := st__law_is_prefixes) l__law_is_prefixes c__law_is_prefixes k__law_is_prefixes
  have F__law_some := fun_mk (st := st__law_some) l__law_some c__law_some k__law_some
  have F_law := fun_mk (st := st_law) l_law c_law k_law
  have b_covers := F_covers.binds (ps := ["prefix", "bits", "n"]) fun _ _ _ _ _ _ us hl => match us, hl with | [_, _, _], _ => rfl
  have b_prefixes_of := F_prefixes_of.binds (ps := ["low", "high", "bits"]) fun _ _ _ _ _ _ us hl => match us, hl with | [_, _, _], _ => rfl
  have b_prefixes_of_set := F_prefixes_of_set.binds (ps := ["numbers", "bits"]) fun _ _ _ _ _ _ us hl => match us, hl with | [_, _], _ => rfl
  have b__prefixes := F__prefixes.binds (ps := ["numbers", "value", "length", "bits"]) fun _ _ _ _ _ _ us hl => match us, hl with | [_, _, _, _], _ => rfl
  have b__law_draws := F__law_draws.binds (ps := ["script", "many"]) fun _ _ _ _ _ _ us hl => match us, hl with | [_, _], _ => rfl
  have b__law_next := F__law_next.binds (ps := ["w", "many"]) fun _ _ _ _ _ _ us hl => match us, hl with | [_, _], _ => rfl
  have b__law_pick := F__law_pick.binds (ps := ["w", "rows"]) fun _ _ _ _ _ _ us hl => match us, hl with | [_, _], _ => rfl
  have b__law_greatest := F__law_greatest.binds (ps := ["low", "high", "has", "bits"]) fun _ _ _ _ _ _ us hl => match us, hl with | [_, _, _, _], _ => rfl
  have b__law_is_prefixes := F__law_is_prefixes.binds (ps := ["told"]) fun _ _ _ _ _ _ us hl => match us, hl with | [_], _ => rfl
  have b__law_some := F__law_some.binds (ps := ["w", "bits"]) fun _ _ _ _ _ _ us hl => match us, hl with | [_, _], _ => rfl
  have b_law := F_law.binds (ps := ["script"]) fun _ _ _ _ _ _ us hl => match us, hl with | [_], _ => rfl
  refine ⟨PySem.W.fnOf "law" "law" (defArgs st_law) (defBody st_law) (defScope st_law) .none kV_law dc_law pm_law an_law cd_law ct_law, fun s v => .of_eq rfl, fun base _ _ => ?_⟩
  exact (all_ok (ad := ⟨_, _, _, _, _, _, _, _, _, _, _⟩) (fd := ⟨_, _, _, _, _, _, _, _, _, _, _⟩) ⟨PySem.W.mg_none_of X Gn z_tuple, PySem.W.mg_none_of X Gn z_range, PySem.W.mg_none_of X Gn z_list, PySem.W.mg_none_of X Gn z_len, PySem.W.mg_none_of X Gn z_abs, PySem.W.mg_none_of X Gn z_int, PySem.W.mg_none_of X Gn z_isinstance, PySem.W.mg_none_of X Gn z_bool, PySem.W.mg_none_of X Gn z_sorted, PySem.W.mg_none_of X Gn z_set, PySem.W.mg_none_of X Gn z_min, PySem.W.mg_none_of X Gn z_max, PySem.W.mg_of X Gn a_covers, F_covers, b_covers, PySem.W.mg_of X Gn a_prefixes_of, F_prefixes_of, b_prefixes_of, PySem.W.mg_of X Gn a_prefixes_of_set, F_prefixes_of_set, b_prefixes_of_set, PySem.W.mg_of X Gn a__prefixes, F__prefixes, b__prefixes, PySem.W.mg_of X Gn a__law_draws, F__law_draws, b__law_draws, PySem.W.mg_of X Gn a__law_next, F__law_next, b__law_next, PySem.W.mg_of X Gn a__law_pick, F__law_pick, b__law_pick, PySem.W.mg_of X Gn a__law_greatest, F__law_greatest, b__law_greatest, PySem.W.mg_of X Gn a__law_is_prefixes, F__law_is_prefixes, b__law_is_prefixes, PySem.W.mg_of X Gn a__law_some, F__law_some, b__law_some, PySem.W.mg_of X Gn a_law, F_law, b_law⟩ kk).law
theorem walk {W kk : Nat} {l : PySem.W.OpenLaw} {q : Program} {loose : List Str} {XP : (Str → Option Value) → Heap → Prop} {YP : World → Heap → Prop} {d : DefRec} {K : Params → PySem.W.Frag} (hr : Room kk callerA)
    (good : ∀ ns : List Int, ns.length ≤ 63 → ∃ s', G W kk 10 [.scr ns] [] = .ok (.bl true) s') (hn : l.most = some 63) (hdf : d.params.defaults = [])
    (hY : ∀ (w : World) (h : Heap), YP w h → (K w.params).In h)
    (F : ∀ (w : World) (mg : Str → Option Value) (fa : Addr) (h : Heap), (K w.params).In h → h.Ns mainGlobals mg → mg d.name = some (.ref fa) →
      ∃ fd : FuncData, (∀ (s : Shared) (u : Value), BindsTo s fd ⟨[u], []⟩ [("script", u)]) ∧ ∀ base : Heap, (K w.params).In base → base.Ns mainGlobals mg → FnOk l.prog w (K w.params) mg base CX0 kk fa fd ["script"] (spD ⟨w, fun _ => none⟩ (K w.params) (fun _ => none) 1 1 (G W kk 10))) :
    PySem.W.WalkO q loose XP YP l.row.toRowW d [] (fun f vs => PySem.call f vs) :=
  L2.walk_of (n := 63) (k := kk) (x := "script") (CX := fun _ => CX0) (sp := fun w => spD ⟨w, fun _ => none⟩ (K w.params) (fun _ => none) 1 1 (G W kk 10)) hn (by decide) hdf hr hY F (fun _ _ a ns hl ho hS => law_sp ho hS (good ns hl)) fun _ _ _ _ _ z => z
end Ob
open PySem PySem.W PyProof.Rows L2 in
set_option maxRecDepth 100000 in
set_option maxHeartbeats 0 in
theorem PySem.Challenge.cw_samehops_k66_prefixes_of_numbers_holds : PySem.Challenge.rw_samehops_k66_prefixes_of_numbers.Holds := by
  w_on; o_law; k_head; (case hw => w_witness2)
  k_fill
  refine Ob.walk (W := Ob.Wc) (kk := Ob.Kc) (l := PySem.Challenge.rw_samehops_k66_prefixes_of_numbers) Ob.room Ob.good rfl rfl (fun w h Y => PySem.W.kIn_of Y) ?F
  case F =>
    intro w mg fa h KX Gn hmg
    refine' Ob.all_mk KX Gn hmg ?a_covers ?l_covers ?c_covers ?k_covers ?a_prefixes_of ?l_prefixes_of ?c_prefixes_of ?k_prefixes_of ?a_prefixes_of_set ?l_prefixes_of_set ?c_prefixes_of_set ?k_prefixes_of_set ?a__prefixes ?l__prefixes ?c__prefixes ?k__prefixes ?a__law_draws ?l__law_draws ?c__law_draws ?k__law_draws ?a__law_next ?l__law_next ?c__law_next ?k__law_next ?a__law_pick ?l__law_pick ?c__law_pick ?k__law_pick ?a__law_greatest ?l__law_greatest ?c__law_greatest ?k__law_greatest ?a__law_is_prefixes ?l__law_is_prefixes ?c__law_is_prefixes ?k__law_is_prefixes ?a__law_some ?l__law_some ?c__law_some ?k__law_some ?a_law ?l_law ?c_law ?k_law ?z_tuple ?z_range ?z_list ?z_len ?z_abs ?z_int ?z_isinstance ?z_bool ?z_sorted ?z_set ?z_min ?z_max
    (case a_covers => k_is)
    (case l_covers => k_is)
    (case c_covers => k_is)
    (case k_covers => k_is)
    (case a_prefixes_of => k_is)
    (case l_prefixes_of => k_is)
    (case c_prefixes_of => k_is)
    (case k_prefixes_of => k_is)
    (case a_prefixes_of_set => k_is)
    (case l_prefixes_of_set => k_is)
    (case c_prefixes_of_set => k_is)
    (case k_prefixes_of_set => k_is)
    (case a__prefixes => k_is)
    (case l__prefixes => k_is)
    (case c__prefixes => k_is)
    (case k__prefixes => k_is)
    (case a__law_draws => k_is)
    (case l__law_draws => k_is)
    (case c__law_draws => k_is)
    (case k__law_draws => k_is)
    (case a__law_next => k_is)
    (case l__law_next => k_is)
    (case c__law_next => k_is)
    (case k__law_next => k_is)
    (case a__law_pick => k_is)
    (case l__law_pick => k_is)
    (case c__law_pick => k_is)
    (case k__law_pick => k_is)
    (case a__law_greatest => k_is)
    (case l__law_greatest => k_is)
    (case c__law_greatest => k_is)
    (case k__law_greatest => k_is)
    (case a__law_is_prefixes => k_is)
    (case l__law_is_prefixes => k_is)
    (case c__law_is_prefixes => k_is)
    (case k__law_is_prefixes => k_is)
    (case a__law_some => k_is)
    (case l__law_some => k_is)
    (case c__law_some => k_is)
    (case k__law_some => k_is)
    (case a_law => k_is)
    (case l_law => k_is)
    (case c_law => k_is)
    (case k_law => k_is)
    (case z_tuple => k_is)
    (case z_range => k_is)
    (case z_list => k_is)
    (case z_len => k_is)
    (case z_abs => k_is)
    (case z_int => k_is)
    (case z_isinstance => k_is)
    (case z_bool => k_is)
    (case z_sorted => k_is)
    (case z_set => k_is)
    (case z_min => k_is)
    (case z_max => k_is)
