import PyProof.Rows.All
import Wide.All
import OpenK.AllK
import Wide.FinOn
import HandS.ForMost
import HandS.IsInst
import KE.DataCmp
import KE.SortData
import HandS.TupAny
import HandS.Wide
import HandS.WideBits
import PyProof.NeKinds
import HandS.Deep
import HandS.Style
import HandS.TupLen
import KE.KDictSum
import KE.KDictKeyed
import HandS.Conv
import PyProof.CallFns
import KE.KDictPairs
import HandS.Flow
import HandS.Codes
import HandS.Zip
import PyProof.Rows.CallKwBuiltin
import HandS.Small
import HandS.Star
import HandS.EndBits
import PyProof.ReprBulk
import PySem.Challenge.RW_topplingsteps_k82_whole_families_and_wha
set_option Elab.async false
set_option linter.all false
set_option maxRecDepth 100000
/-! Vm, part 1: plain data, what a slot owns, the relation between the evaluator's state and the heap. -/
namespace Vm
open PySem PySem.Spec PyProof.Rows L2

/-! ### keys of dicts -/
inductive DK where
  | k (x : Key)
  | t (xs : List Key)
  deriving DecidableEq
def keyDat : Key → PyData
  | .inl i => .int i
  | .inr s => .str s
def toKey : PyData → Option Key
  | .int i => some (.inl i)
  | .str s => some (.inr s)
  | _ => none
def toKeys : List PyData → Option (List Key)
  | [] => some []
  | x :: xs => match toKey x, toKeys xs with
    | some k, some ks => some (k :: ks)
    | _, _ => none
def toDK : PyData → Option DK
  | .int i => some (.k (.inl i))
  | .str s => some (.k (.inr s))
  | .tuple xs => (toKeys xs).map .t
  | _ => none
/-- a tuple of these is no key -/
def noKey (xs : List PyData) : Bool := (toKeys xs).isNone
def DK.dat : DK → PyData
  | .k x => keyDat x
  | .t xs => .tuple (xs.map keyDat)

/-! ### data in a heap -/
mutual
inductive Den (K : PySem.W.Frag) (F : Hp) : V → PyData → Prop
  | non : Den K F .non .none
  | bl (b : Bool) : Den K F (.bl b) (.bool b)
  | int (i : Int) : Den K F (.int i) (.int i)
  | str (x : Str) : Den K F (.str x) (.str x)
  | lst {a : Addr} {vs : List V} {ds : List PyData} : F a = some (.lst vs) → DenAll K F vs ds → Den K F (.ref a) (.list ds)
  | tup {a : Addr} {vs : List V} {ds : List PyData} : F a = some (.tup vs) → DenAll K F vs ds → Den K F (.ref a) (.tuple ds)
  | ftup {a : Addr} {vs : List V} {ds : List PyData} {o : Obj} : F a = some (.frz o (.tup vs)) → o.dict = none → noKey ds = true → DenAll K F vs ds → Den K F (.ref a) (.tuple ds)
  | dk0 {a : Addr} : F a = some (.dK []) → Den K F (.ref a) (.dict [])
inductive DenAll (K : PySem.W.Frag) (F : Hp) : List V → List PyData → Prop
  | nil : DenAll K F [] []
  | cons {v : V} {vs : List V} {d : PyData} {ds : List PyData} : Den K F v d → DenAll K F vs ds → DenAll K F (v :: vs) (d :: ds)
end

theorem sqT_mono {K : PySem.W.Frag} {F F' : Hp} {a : Addr} {xs : List V} (e : Same F F') (h : SqT K F a xs) : SqT K F' a xs := by
  rcases h with (h | ⟨o, h⟩) | h
  · exact .inl (.inl (e _ _ h))
  · exact .inl (.inr ⟨o, e _ _ h⟩)
  · exact .inr h
mutual
theorem Den.mono {K : PySem.W.Frag} {F F' : Hp} (e : Same F F') : ∀ {v : V} {d : PyData}, Den K F v d → Den K F' v d
  | _, _, .non => .non
  | _, _, .bl b => .bl b
  | _, _, .int i => .int i
  | _, _, .str x => .str x
  | _, _, .lst h hs => .lst (e _ _ h) (DenAll.mono e hs)
  | _, _, .tup h hs => .tup (e _ _ h) (DenAll.mono e hs)
  | _, _, .ftup h d n hs => .ftup (e _ _ h) d n (DenAll.mono e hs)
  | _, _, .dk0 h => .dk0 (e _ _ h)
theorem DenAll.mono {K : PySem.W.Frag} {F F' : Hp} (e : Same F F') : ∀ {vs : List V} {ds : List PyData}, DenAll K F vs ds → DenAll K F' vs ds
  | _, _, .nil => .nil
  | _, _, .cons h hs => .cons (Den.mono e h) (DenAll.mono e hs)
end
theorem DenAll.length {K : PySem.W.Frag} {F : Hp} : ∀ {vs : List V} {ds : List PyData}, DenAll K F vs ds → vs.length = ds.length
  | _, _, .nil => rfl
  | _, _, .cons _ hs => congrArg Nat.succ (DenAll.length hs)
theorem DenAll.append {K : PySem.W.Frag} {F : Hp} : ∀ {vs ws : List V} {ds es : List PyData}, DenAll K F vs ds → DenAll K F ws es → DenAll K F (vs ++ ws) (ds ++ es)
  | _, _, _, _, .nil, h => h
  | _, _, _, _, .cons h hs, g => .cons h (DenAll.append hs g)
theorem DenAll.get {K : PySem.W.Frag} {F : Hp} : ∀ {vs : List V} {ds : List PyData} {i : Nat} {d : PyData}, DenAll K F vs ds → ds[i]? = some d → ∃ v, vs[i]? = some v ∧ Den K F v d
  | _, _, _, _, .nil, e => by simp at e
  | _, _, 0, _, .cons h _, e => ⟨_, rfl, by simp at e; exact e ▸ h⟩
  | _, _, i + 1, _, .cons _ hs, e => by
    obtain ⟨v, h1, h2⟩ := DenAll.get (i := i) hs (by simpa using e)
    exact ⟨v, by simpa using h1, h2⟩
theorem DenAll.getV {K : PySem.W.Frag} {F : Hp} : ∀ {vs : List V} {ds : List PyData} {i : Nat} {v : V}, DenAll K F vs ds → vs[i]? = some v → ∃ d, ds[i]? = some d ∧ Den K F v d
  | _, _, _, _, .nil, e => by simp at e
  | _, _, 0, _, .cons h _, e => ⟨_, rfl, by simp at e; exact e ▸ h⟩
  | _, _, i + 1, _, .cons _ hs, e => by
    obtain ⟨v, h1, h2⟩ := DenAll.getV (i := i) hs (by simpa using e)
    exact ⟨v, by simpa using h1, h2⟩
theorem DenAll.take {K : PySem.W.Frag} {F : Hp} : ∀ {vs : List V} {ds : List PyData} (n : Nat), DenAll K F vs ds → DenAll K F (vs.take n) (ds.take n)
  | _, _, 0, _ => .nil
  | _, _, _ + 1, .nil => .nil
  | _, _, n + 1, .cons h hs => .cons h (DenAll.take n hs)
theorem DenAll.drop {K : PySem.W.Frag} {F : Hp} : ∀ {vs : List V} {ds : List PyData} (n : Nat), DenAll K F vs ds → DenAll K F (vs.drop n) (ds.drop n)
  | _, _, 0, h => h
  | _, _, _ + 1, .nil => .nil
  | _, _, n + 1, .cons _ hs => DenAll.drop n hs
theorem DenAll.set {K : PySem.W.Frag} {F : Hp} {v : V} {d : PyData} (h : Den K F v d) : ∀ {vs : List V} {ds : List PyData} (i : Nat), DenAll K F vs ds → DenAll K F (vs.set i v) (ds.set i d)
  | _, _, _, .nil => .nil
  | _, _, 0, .cons _ hs => .cons h hs
  | _, _, i + 1, .cons g hs => .cons g (DenAll.set h i hs)
theorem DenAll.erase {K : PySem.W.Frag} {F : Hp} : ∀ {vs : List V} {ds : List PyData} (i : Nat), DenAll K F vs ds → DenAll K F (vs.eraseIdx i) (ds.eraseIdx i)
  | _, _, _, .nil => .nil
  | _, _, 0, .cons _ hs => hs
  | _, _, i + 1, .cons g hs => .cons g (DenAll.erase i hs)
theorem DenAll.reverse {K : PySem.W.Frag} {F : Hp} : ∀ {vs : List V} {ds : List PyData}, DenAll K F vs ds → DenAll K F vs.reverse ds.reverse
  | _, _, .nil => .nil
  | _, _, .cons h hs => by
    rw [List.reverse_cons, List.reverse_cons]
    exact DenAll.append (DenAll.reverse hs) (.cons h .nil)
theorem DenAll.rep {K : PySem.W.Frag} {F : Hp} {vs : List V} {ds : List PyData} (h : DenAll K F vs ds) : ∀ n : Nat, DenAll K F (List.replicate n vs).flatten (List.replicate n ds).flatten
  | 0 => .nil
  | n + 1 => by
    rw [List.replicate_succ, List.replicate_succ, List.flatten_cons, List.flatten_cons]
    exact DenAll.append h (DenAll.rep h n)
theorem DenAll.dropLast {K : PySem.W.Frag} {F : Hp} {vs : List V} {ds : List PyData} (h : DenAll K F vs ds) : DenAll K F vs.dropLast ds.dropLast := by
  rw [List.dropLast_eq_take, List.dropLast_eq_take, h.length]
  exact h.take _
theorem DenAll.ints {K : PySem.W.Frag} {F : Hp} : ∀ (ns : List Int), DenAll K F (ns.map V.int) (ns.map PyData.int)
  | [] => .nil
  | n :: ns => .cons (.int n) (DenAll.ints ns)

/-! ### what a value of the evaluator is -/
/-- a tuple stands at a -/
def TpAt (H : Hp) (a : Addr) (vs : List V) : Prop := H a = some (.tup vs) ∨ ∃ o, H a = some (.frz o (.tup vs)) ∧ o.dict = none
theorem TpAt.mono {H H' : Hp} {a : Addr} {vs : List V} (h : TpAt H a vs) (e : Same H H') : TpAt H' a vs := by
  rcases h with h | ⟨o, h, d⟩
  · exact .inl (e _ _ h)
  · exact .inr ⟨o, e _ _ h, d⟩
theorem TpAt.sq {K : PySem.W.Frag} {H : Hp} {a : Addr} {vs : List V} (h : TpAt H a vs) : SqT K H a vs := by
  rcases h with h | ⟨o, h, d⟩
  · exact .inl (.inl h)
  · exact .inl (.inr ⟨o, h⟩)
abbrev KVs := List (DK × PyData)
inductive O where
  /-- data that nothing will change -/
  | d (x : PyData)
  /-- a tuple that is no key, its object known -/
  | pt (xs : List PyData)
  /-- a list that belongs to this place alone -/
  | lst (xs : List PyData)
  /-- a list of lists that belong to this place alone -/
  | mat (rows : List (List PyData))
  /-- a dict that belongs to this place alone; t: its keys are tuples -/
  | dct (t : Bool) (kvs : KVs)
  /-- a dict that nothing will change -/
  | fdct (t : Bool) (kvs : KVs)
  /-- the law's source of numbers -/
  | src
  /-- what slot i holds, looked at -/
  | bor (i : Nat)

def KVr (K : PySem.W.Frag) (F : Hp) : List (Key × V) → KVs → Prop := Paired fun p q => q.1 = DK.k p.1 ∧ Den K F p.2 q.2
def KTr (K : PySem.W.Frag) (F : Hp) : List (List Key × V) → KVs → Prop := Paired fun p q => q.1 = DK.t p.1 ∧ Den K F p.2 q.2
def DctAt (K : PySem.W.Frag) (F H : Hp) (a : Addr) (t : Bool) (kvs : KVs) : Prop :=
  match t with
  | false => ∃ hk, H a = some (.dK hk) ∧ KVr K F hk kvs
  | true => ∃ hk, H a = some (.dT hk) ∧ KTr K F hk kvs
def RowsAt (K : PySem.W.Frag) (F H : Hp) : List Addr → List (List PyData) → Prop := Paired fun b row => ∃ vs, H b = some (.lst vs) ∧ DenAll K F vs row

def OwnAt (K : PySem.W.Frag) (F H : Hp) (S : List Addr) (σ : L2.St) : O → V → List Addr → Prop
  | .d x, v, B => B = [] ∧ Den K F v x
  | .pt xs, v, B => B = [] ∧ ∃ a vs o, v = .ref a ∧ F a = some (.frz o (.tup vs)) ∧ o.dict = none ∧ noKey xs = true ∧ DenAll K F vs xs
  | .lst xs, v, B => ∃ a vs, v = .ref a ∧ B = [a] ∧ H a = some (.lst vs) ∧ DenAll K F vs xs
  | .mat rows, v, B => ∃ a bs, v = .ref a ∧ B = a :: bs ∧ H a = some (.lst (bs.map V.ref)) ∧ RowsAt K F H bs rows
  | .dct t kvs, v, B => ∃ a, v = .ref a ∧ B = [a] ∧ DctAt K F H a t kvs
  | .fdct t kvs, v, B => ∃ a, v = .ref a ∧ B = [] ∧ DctAt K F F a t kvs
  | .src, v, B => B = [] ∧ ∃ sa ca, S = [sa, ca] ∧ v = .ref sa
  | .bor i, v, B => B = [] ∧ σ[i]? = some (some v)

theorem KVr.mono {K : PySem.W.Frag} {F F' : Hp} (e : Same F F') {a : List (Key × V)} {b : KVs} (h : KVr K F a b) : KVr K F' a b := Paired.mapP h fun _ _ z => ⟨z.1, z.2.mono e⟩
theorem KTr.mono {K : PySem.W.Frag} {F F' : Hp} (e : Same F F') {a : List (List Key × V)} {b : KVs} (h : KTr K F a b) : KTr K F' a b := Paired.mapP h fun _ _ z => ⟨z.1, z.2.mono e⟩
theorem DctAt.keep {K : PySem.W.Frag} {F F' H H' : Hp} (e : Same F F') {a : Addr} {t : Bool} {kvs : KVs} (h : DctAt K F H a t kvs) (k : ∀ o, H a = some o → H' a = some o) : DctAt K F' H' a t kvs := by
  cases t with
  | false => obtain ⟨hk, h1, h2⟩ := h; exact ⟨hk, k _ h1, h2.mono e⟩
  | true => obtain ⟨hk, h1, h2⟩ := h; exact ⟨hk, k _ h1, h2.mono e⟩
theorem Paired.mapM {α β : Type} {F G : α → β → Prop} : ∀ {l₁ : List α} {l₂ : List β}, Paired F l₁ l₂ → (∀ a b, a ∈ l₁ → F a b → G a b) → Paired G l₁ l₂
  | _, _, .nil, _ => .nil
  | _, _, .cons r t, f => .cons (f _ _ List.mem_cons_self r) (Paired.mapM t fun a b h => f a b (List.mem_cons_of_mem _ h))
theorem RowsAt.keep {K : PySem.W.Frag} {F F' H H' : Hp} (e : Same F F') {bs : List Addr} {rows : List (List PyData)} (h : RowsAt K F H bs rows) (k : ∀ b ∈ bs, ∀ o, H b = some o → H' b = some o) : RowsAt K F' H' bs rows :=
  Paired.mapM h fun b row hb ⟨vs, h1, h2⟩ => ⟨vs, k b hb _ h1, h2.mono e⟩
/-- what is kept -/
theorem OwnAt.keep {K : PySem.W.Frag} {F F' H H' : Hp} {S : List Addr} {σ : L2.St} (e : Same F F') {o : O} {v : V} {B : List Addr} (h : OwnAt K F H S σ o v B) (k : ∀ b ∈ B, ∀ u, H b = some u → H' b = some u) : OwnAt K F' H' S σ o v B := by
  cases o with
  | d x => exact ⟨h.1, h.2.mono e⟩
  | pt xs => obtain ⟨h0, a, vs, ob, e1, h1, h2, h3, h4⟩ := h; exact ⟨h0, a, vs, ob, e1, e _ _ h1, h2, h3, h4.mono e⟩
  | lst xs => obtain ⟨a, vs, rfl, rfl, h1, h2⟩ := h; exact ⟨a, vs, rfl, rfl, k a List.mem_cons_self _ h1, h2.mono e⟩
  | mat rows => obtain ⟨a, bs, rfl, rfl, h1, h2⟩ := h; exact ⟨a, bs, rfl, rfl, k a List.mem_cons_self _ h1, h2.keep e fun b hb => k b (List.mem_cons_of_mem _ hb)⟩
  | dct t kvs => obtain ⟨a, rfl, rfl, h1⟩ := h; exact ⟨a, rfl, rfl, h1.keep e (k a List.mem_cons_self)⟩
  | fdct t kvs => obtain ⟨a, rfl, rfl, h1⟩ := h; exact ⟨a, rfl, rfl, h1.keep e (e a)⟩
  | src => exact h
  | bor i => exact h

/-! ### what may be changed; what may become plain data -/
def Mu (H : Hp) (b : Addr) : Prop := (∃ xs, H b = some (.lst xs)) ∨ (∃ k, H b = some (.dK k)) ∨ ∃ k, H b = some (.dT k)
def Fre (H : Hp) (b : Addr) : Prop := H b = none ∨ ∃ vs, H b = some (.tup vs)
theorem Mu.ne {H : Hp} {b : Addr} (m : Mu H b) : H b ≠ none := by
  rcases m with ⟨x, e⟩ | ⟨x, e⟩ | ⟨x, e⟩ <;> (rw [e]; exact fun z => nomatch z)
theorem Mu.noFre {H : Hp} {b : Addr} (m : Mu H b) (f : Fre H b) : False := by
  rcases f with f | ⟨vs, f⟩
  · exact m.ne f
  · rcases m with ⟨x, e⟩ | ⟨x, e⟩ | ⟨x, e⟩ <;> (rw [e] at f; cases f)
theorem Mu.keep {H H' : Hp} {b : Addr} (m : Mu H b) (k : ∀ o, H b = some o → H' b = some o) : Mu H' b := by
  rcases m with ⟨x, e⟩ | ⟨x, e⟩ | ⟨x, e⟩
  · exact .inl ⟨x, k _ e⟩
  · exact .inr (.inl ⟨x, k _ e⟩)
  · exact .inr (.inr ⟨x, k _ e⟩)

/-! ### the state -/
structure Src where
  cells : List Int
  left : Int
  mixed : Int
  turn : Int
structure St where
  ρ : List (Option O)
  src : Option Src

/-- the source's dict, its keys in their order -/
def SrcAt (H : Hp) (sa ca : Addr) (s : Src) : Prop :=
  H sa = some (.dK [(.inr "cells", .ref ca), (.inr "left", .int s.left), (.inr "mixed", .int s.mixed), (.inr "turn", .int s.turn)]) ∧ H ca = some (.lst (s.cells.map V.int))
def SrcRel (F H : Hp) (S : List Addr) : Option Src → Prop
  | none => S = []
  | some s => ∃ sa ca, S = [sa, ca] ∧ F sa = none ∧ F ca = none ∧ SrcAt H sa ca s

/-- the addresses that the state may change -/
def Ow (S : List Addr) (A : Nat → List Addr) (b : Addr) : Prop := b ∈ S ∨ ∃ i, b ∈ A i

structure Rel (K : PySem.W.Frag) (F H : Hp) (S : List Addr) (σ : L2.St) (st : St) (A : Nat → List Addr) : Prop where
  same : Same F H
  slots : ∀ i o, st.ρ[i]? = some (some o) → ∃ v, σ[i]? = some (some v) ∧ OwnAt K F H S σ o v (A i)
  nobor : ∀ (i j : Nat), st.ρ[i]? ≠ some (some (O.bor j))
  nod : ∀ i, (A i).Nodup
  dis : ∀ i j b, b ∈ A i → b ∈ A j → i = j
  out : ∀ i b, b ∈ A i → F b = none ∧ b ∉ S ∧ Mu H b
  emp : ∀ i, (∀ o, st.ρ[i]? ≠ some (some o)) → A i = []
  src : SrcRel F H S st.src
  len : st.ρ.length ≤ σ.length

/-- from F, H to F', H': what is not in W is kept; what is in W' was in W, or is new -/
structure Step (F H : Hp) (W : Addr → Prop) (F' H' : Hp) (W' : Addr → Prop) : Prop where
  fr : Same F F'
  keep : ∀ b o, H b = some o → ¬ W b → H' b = some o
  live : ∀ b, H b ≠ none → H' b ≠ none
  own : ∀ b, W' b → W b ∨ H b = none
  frz : ∀ b, F' b ≠ none → F b ≠ none ∨ W b ∨ Fre H b
theorem Step.refl {F H : Hp} {W : Addr → Prop} : Step F H W F H W := ⟨Same.refl _, fun _ _ h _ => h, fun _ h => h, fun _ h => .inl h, fun _ h => .inl h⟩
theorem Step.trans {F H F1 H1 F2 H2 : Hp} {W W1 W2 : Addr → Prop} (a : Step F H W F1 H1 W1) (b : Step F1 H1 W1 F2 H2 W2) : Step F H W F2 H2 W2 where
  fr := a.fr.trans b.fr
  keep := fun c o h n => by
    refine b.keep c o (a.keep c o h n) fun w => ?_
    rcases a.own c w with q | q
    · exact n q
    · rw [h] at q; cases q
  live := fun c h => b.live c (a.live c h)
  own := fun c h => by
    rcases b.own c h with q | q
    · exact a.own c q
    · by_cases z : H c = none
      · exact .inr z
      · exact absurd q (a.live c z)
  frz := fun c h => by
    rcases b.frz c h with q | q | q
    · exact a.frz c q
    · rcases a.own c q with z | z
      · exact .inr (.inl z)
      · exact .inr (.inr (.inl z))
    · cases z : H c with
      | none => exact .inr (.inr (.inl z))
      | some o =>
        by_cases w : W c
        · exact .inr (.inl w)
        · have k := a.keep c o z w
          rcases q with q | ⟨vs, q⟩
          · rw [k] at q; cases q
          · rw [k] at q
            cases q
            exact .inr (.inr (.inr ⟨vs, z⟩))
theorem Step.weak {F H F1 H1 : Hp} {W W1 W2 : Addr → Prop} (a : Step F H W F1 H1 W1) (h : ∀ b, W2 b → W1 b) : Step F H W F1 H1 W2 := ⟨a.fr, a.keep, a.live, fun b z => a.own b (h b z), a.frz⟩
theorem Step.wide {F H F1 H1 : Hp} {W W0 W1 : Addr → Prop} (a : Step F H W F1 H1 W1) (h : ∀ b, W b → W0 b) : Step F H W0 F1 H1 W1 :=
  ⟨a.fr, fun b o e n => a.keep b o e fun z => n (h b z), a.live, fun b z => (a.own b z).imp (h b) id, fun b z => (a.frz b z).imp id (Or.imp (h b) id)⟩
/-- a set that the step does not own stays beside it -/
theorem Step.side {F H F1 H1 : Hp} {W W1 : Addr → Prop} (a : Step F H W F1 H1 W1) (B : Addr → Prop) : Step F H (fun b => W b ∨ B b) F1 H1 (fun b => W1 b ∨ B b) where
  fr := a.fr
  keep := fun b o e n => a.keep b o e fun z => n (.inl z)
  live := a.live
  own := fun b z => by
    rcases z with z | z
    · exact (a.own b z).imp Or.inl id
    · exact .inl (.inr z)
  frz := fun b z => (a.frz b z).imp id (Or.imp Or.inl id)

/-- the heap grows by new things, some of them plain data -/
structure Grow (F H F' H' : Hp) : Prop where
  fr : Same F F'
  hp : Same H H'
  sm : Same F' H'
  nw : ∀ b, F' b ≠ none → F b ≠ none ∨ Fre H b
theorem Grow.refl {F H : Hp} (s : Same F H) : Grow F H F H := ⟨Same.refl _, Same.refl _, s, fun _ h => .inl h⟩
theorem ne_none_of {H : Hp} {b : Addr} {o : HO} (h : H b = some o) : H b ≠ none := by rw [h]; exact fun z => by cases z
theorem some_of_ne {H : Hp} {b : Addr} (h : H b ≠ none) : ∃ o, H b = some o := by
  cases q : H b with
  | none => exact absurd q h
  | some o => exact ⟨o, rfl⟩
theorem Grow.trans {F H F1 H1 F2 H2 : Hp} (a : Grow F H F1 H1) (b : Grow F1 H1 F2 H2) : Grow F H F2 H2 := by
  refine ⟨a.fr.trans b.fr, a.hp.trans b.hp, b.sm, fun c h => ?_⟩
  rcases b.nw c h with q | q
  · exact a.nw c q
  · cases z : H c with
    | none => exact .inr (.inl z)
    | some o =>
      have k := a.hp c o z
      rcases q with q | ⟨vs, q⟩
      · rw [k] at q; cases q
      · rw [k] at q
        cases q
        exact .inr (.inr ⟨vs, z⟩)
theorem Grow.step {F H F' H' : Hp} (g : Grow F H F' H') {W : Addr → Prop} : Step F H W F' H' W :=
  ⟨g.fr, fun b o h _ => g.hp b o h, fun b h => let ⟨_, e⟩ := some_of_ne h; ne_none_of (g.hp _ _ e), fun _ h => .inl h, fun b h => (g.nw b h).imp id .inr⟩
theorem Grow.out {F H F' H' : Hp} (g : Grow F H F' H') {b : Addr} (f : F b = none) (h : Mu H b) : F' b = none := by
  cases q : F' b with
  | none => rfl
  | some u =>
    rcases g.nw b (ne_none_of q) with z | z
    · exact absurd f z
    · exact (h.noFre z).elim
theorem SrcRel.grow {F H F' H' : Hp} {S : List Addr} {s : Option Src} (r : SrcRel F H S s) (g : Grow F H F' H') : SrcRel F' H' S s := by
  cases s with
  | none => exact r
  | some s =>
    obtain ⟨sa, ca, e, f1, f2, h1, h2⟩ := r
    exact ⟨sa, ca, e, g.out f1 (.inr (.inl ⟨_, h1⟩)), g.out f2 (.inl ⟨_, h2⟩), g.hp _ _ h1, g.hp _ _ h2⟩
theorem Rel.grow {K : PySem.W.Frag} {F H F' H' : Hp} {S : List Addr} {σ : L2.St} {st : St} {A : Nat → List Addr} (r : Rel K F H S σ st A) (g : Grow F H F' H') : Rel K F' H' S σ st A where
  same := g.sm
  slots := fun i o e => let ⟨v, h1, h2⟩ := r.slots i o e; ⟨v, h1, h2.keep g.fr fun b _ u => g.hp b u⟩
  nobor := r.nobor
  nod := r.nod
  dis := r.dis
  out := fun i b hb => let ⟨h1, h2, h3⟩ := r.out i b hb; ⟨g.out h1 h3, h2, h3.keep (g.hp b)⟩
  emp := r.emp
  src := r.src.grow g
  len := r.len

/-! ### freezing -/
/-- the things at B become plain data -/
def absorb (F H : Hp) (B : List Addr) : Hp := fun b => if b ∈ B then H b else F b
theorem absorb_in {F H : Hp} {B : List Addr} {b : Addr} (h : b ∈ B) : absorb F H B b = H b := if_pos h
theorem absorb_out {F H : Hp} {B : List Addr} {b : Addr} (h : b ∉ B) : absorb F H B b = F b := if_neg h
theorem absorb_fr {F H : Hp} {B : List Addr} (s : Same F H) : Same F (absorb F H B) := fun b o e => by
  by_cases h : b ∈ B
  · rw [absorb_in h]; exact s b o e
  · rw [absorb_out h]; exact e
theorem absorb_sm {F H : Hp} {B : List Addr} (s : Same F H) : Same (absorb F H B) H := fun b o e => by
  by_cases h : b ∈ B
  · rw [absorb_in h] at e; exact e
  · rw [absorb_out h] at e; exact s b o e
theorem absorb_step {F H : Hp} {B : List Addr} {W W' : Addr → Prop} (s : Same F H) (hB : ∀ b ∈ B, W b) (hW : ∀ b, W' b → W b) : Step F H W (absorb F H B) H W' :=
  ⟨absorb_fr s, fun _ _ h _ => h, fun _ h => h, fun b h => .inl (hW b h), fun b h => by
    by_cases q : b ∈ B
    · exact .inr (.inl (hB b q))
    · rw [absorb_out q] at h; exact .inl h⟩
theorem absorb_nil {F H : Hp} : absorb F H [] = F := funext fun b => absorb_out (by simp)

/-- the data of an owned thing -/
def O.frz : O → Option O
  | .d x => some (.d x)
  | .pt xs => some (.pt xs)
  | .lst xs => some (.d (.list xs))
  | .mat rows => some (.d (.list (rows.map .list)))
  | .dct t kvs => some (.fdct t kvs)
  | .fdct t kvs => some (.fdct t kvs)
  | .src => some .src
  | .bor _ => none
theorem rows_den {K : PySem.W.Frag} {F H : Hp} : ∀ {bs : List Addr} {rows : List (List PyData)}, RowsAt K F H bs rows → DenAll K (absorb F H bs) (bs.map V.ref) (rows.map .list) ∨ ¬ Same F H := fun {bs rows} h => by
  by_cases s : Same F H
  · refine .inl ?_
    have go : ∀ {bs' : List Addr} {rows' : List (List PyData)}, (∀ b ∈ bs', b ∈ bs) → RowsAt K F H bs' rows' → DenAll K (absorb F H bs) (bs'.map V.ref) (rows'.map .list) := fun {bs' rows'} hs h => by
      induction h with
      | nil => exact .nil
      | cons r t ih =>
        obtain ⟨vs, h1, h2⟩ := r
        refine .cons (.lst ?_ (h2.mono (absorb_fr s))) (ih fun b hb => hs b (List.mem_cons_of_mem _ hb))
        rw [absorb_in (hs _ List.mem_cons_self)]
        exact h1
    exact go (fun _ h => h) h
  · exact .inr s
theorem absorb_mono {F H : Hp} {B C : List Addr} (s : Same F H) (h : ∀ b ∈ B, b ∈ C) : Same (absorb F H B) (absorb F H C) := fun b o e => by
  by_cases q : b ∈ C
  · rw [absorb_in q]
    exact absorb_sm s b o e
  · rw [absorb_out q]
    rw [absorb_out fun z => q (h b z)] at e
    exact e
/-- an owned thing, frozen -/
theorem OwnAt.frz {K : PySem.W.Frag} {F H : Hp} {S : List Addr} {σ : L2.St} (s : Same F H) {o o' : O} {v : V} {B : List Addr} (h : OwnAt K F H S σ o v B) (e : o.frz = some o') : OwnAt K (absorb F H B) H S σ o' v [] := by
  cases o with
  | d x => obtain ⟨rfl, h⟩ := h; cases e; exact ⟨rfl, h.mono (absorb_fr s)⟩
  | pt xs => obtain ⟨rfl, a, vs, ob, e1, h1, h2, h3, h4⟩ := h; cases e; exact ⟨rfl, a, vs, ob, e1, absorb_fr s _ _ h1, h2, h3, h4.mono (absorb_fr s)⟩
  | lst xs =>
    obtain ⟨a, vs, rfl, rfl, h1, h2⟩ := h
    cases e
    exact ⟨rfl, .lst (by rw [absorb_in List.mem_cons_self]; exact h1) (h2.mono (absorb_fr s))⟩
  | mat rows =>
    obtain ⟨a, bs, rfl, rfl, h1, h2⟩ := h
    cases e
    refine ⟨rfl, .lst (by rw [absorb_in List.mem_cons_self]; exact h1) ?_⟩
    rcases rows_den h2 with q | q
    · exact q.mono (absorb_mono s fun b hb => List.mem_cons_of_mem _ hb)
    · exact absurd s q
  | dct t kvs =>
    obtain ⟨a, rfl, rfl, h1⟩ := h
    cases e
    exact ⟨a, rfl, rfl, h1.keep (absorb_fr s) fun o z => by rw [absorb_in List.mem_cons_self]; exact z⟩
  | fdct t kvs =>
    obtain ⟨a, rfl, rfl, h1⟩ := h
    cases e
    exact ⟨a, rfl, rfl, h1.keep (absorb_fr s) (absorb_fr s a)⟩
  | src => obtain ⟨rfl, h⟩ := h; cases e; exact ⟨rfl, h⟩
  | bor i => cases e
/-- the state's relation, some things that are not the state's frozen -/
theorem Rel.absorb {K : PySem.W.Frag} {F H : Hp} {S : List Addr} {σ : L2.St} {st : St} {A : Nat → List Addr} (r : Rel K F H S σ st A) {B : List Addr} (hB : ∀ b ∈ B, ¬ Ow S A b) : Rel K (absorb F H B) H S σ st A where
  same := absorb_sm r.same
  slots := fun i o e => let ⟨v, h1, h2⟩ := r.slots i o e; ⟨v, h1, h2.keep (absorb_fr r.same) fun _ _ _ z => z⟩
  nobor := r.nobor
  nod := r.nod
  dis := r.dis
  out := fun i b hb => let ⟨h1, h2, h3⟩ := r.out i b hb; ⟨by rw [absorb_out fun z => hB b z (.inr ⟨i, hb⟩)]; exact h1, h2, h3⟩
  emp := r.emp
  len := r.len
  src := by
    have q := r.src
    cases hs : st.src with
    | none => rw [hs] at q; exact q
    | some s =>
      rw [hs] at q
      obtain ⟨sa, ca, e, f1, f2, h⟩ := q
      refine ⟨sa, ca, e, ?_, ?_, h⟩
      · rw [absorb_out fun z => hB sa z (.inl (by rw [e]; exact List.mem_cons_self))]; exact f1
      · rw [absorb_out fun z => hB ca z (.inl (by rw [e]; exact List.mem_cons_of_mem _ List.mem_cons_self))]; exact f2
end Vm


set_option Elab.async false
set_option linter.all false
set_option maxRecDepth 100000
/-! Vm, part 2: a small language of expressions and statements, and what they compute over plain data. -/
namespace Vm
open PySem PySem.Spec PyProof.Rows L2

/-! ### views: what an operation sees of a value -/
inductive Vw where
  /-- data; the members of a list may be taken out -/
  | d (x : PyData)
  /-- data that is looked at as it stands -/
  | h (x : PyData)
  | dct (t : Bool) (kvs : KVs)
def vw0 : O → Option Vw
  | .d x => some (.d x)
  | .pt xs => some (.d (.tuple xs))
  | .lst xs => some (.d (.list xs))
  | .mat rows => some (.h (.list (rows.map .list)))
  | .dct t kvs => some (.dct t kvs)
  | .fdct t kvs => some (.dct t kvs)
  | .src => none
  | .bor _ => none
def vw (st : St) : O → Option Vw
  | .bor i => match st.ρ[i]? with
    | some (some o) => vw0 o
    | _ => none
  | o => vw0 o

/-! ### operations by values -/
inductive Bop where
  | add | sub | mul | fdiv | fmod | pow
  deriving DecidableEq
inductive Cop where
  | eq | ne | lt | le | gt | ge | isin | notin | is | isnot
  deriving DecidableEq
def binSem : Bop → Vw → Vw → Option O
  | .add, .d (.int i), .d (.int j) => some (.d (.int (i + j)))
  | .add, .d (.list xs), .d (.list ys) => if xs.length + ys.length ≤ sizeLine then some (.lst (xs ++ ys)) else none
  | .add, .d (.tuple xs), .d (.tuple ys) => if xs.length + ys.length ≤ sizeLine then some (.d (.tuple (xs ++ ys))) else none
  | .sub, .d (.int i), .d (.int j) => some (.d (.int (i - j)))
  | .mul, .d (.int i), .d (.int j) => if i.natAbs < 2 ^ 64 ∨ j.natAbs < 2 ^ 64 ∨ i.natAbs.log2 + j.natAbs.log2 < 134217000 then some (.d (.int (i * j))) else none
  | .mul, .d (.list xs), .d (.int k) => if 0 ≤ k ∧ k < 2 ^ 63 ∧ xs.length * k.toNat ≤ sizeLine then some (.lst (List.replicate k.toNat xs).flatten) else none
  | .fdiv, .d (.int i), .d (.int j) => if 0 < j ∧ j.natAbs.log2 < 9000 then some (.d (.int (i / j))) else none
  | .fmod, .d (.int i), .d (.int j) => if 0 < j then some (.d (.int (i % j))) else none
  | .pow, .d (.int i), .d (.int j) => if 0 ≤ j ∧ j ≤ 1000000 ∧ i.natAbs < 2 ^ 64 then some (.d (.int (i ^ j.toNat))) else none
  | _, _, _ => none
def Vw.dat : Vw → Option PyData
  | .d x => some x
  | .h x => some x
  | .dct _ _ => none

/-- x and y can be compared by their order -/
def cmpOk (x y : PyData) : Bool := (match x with
  | .none => false
  | _ => true) && PySem.W.alike x y && decide (x.depth ≤ 64)
/-- x == y, by the data -/
def eqD (x y : PyData) : Option Bool := if SeqAt.shaped x && SeqAt.shaped y then some (PyData.eqv x y) else match x, y with
  | .list xs, .list ys => if xs.length = ys.length then none else some false
  | _, _ => none
def kvGet (kvs : KVs) (k : DK) : Option PyData := (kvs.find? fun p => decide (p.1 = k)).map (·.2)
def kvPut (kvs : KVs) (k : DK) (v : PyData) : KVs := if (kvs.any fun p => decide (p.1 = k)) then kvs.map fun p => if p.1 = k then (p.1, v) else p else kvs ++ [(k, v)]
def DK.tk : DK → Bool
  | .k _ => false
  | .t _ => true
/-- x in y -/
def inSem : Vw → Vw → Option Bool
  | u, .d (.list ys) => u.dat.bind fun x => if SeqAt.shaped x && SeqAt.shaped (.list ys) then some (ys.any fun z => PyData.eqv z x) else none
  | u, .h (.list ys) => u.dat.bind fun x => if SeqAt.shaped x && SeqAt.shaped (.list ys) then some (ys.any fun z => PyData.eqv z x) else none
  | u, .d (.tuple ys) => u.dat.bind fun x => if SeqAt.shaped x && SeqAt.shaped (.tuple ys) then some (ys.any fun z => PyData.eqv z x) else none
  | .d x, .dct t kvs => (toDK x).bind fun k => if k.tk = t then some (kvGet kvs k).isSome else none
  | _, _ => none
def isSem : Vw → Vw → Option Bool
  | .d x, .d .none => match x with
    | .none => some true
    | .bool _ => some false
    | .int _ => some false
    | .tuple _ => some false
    | .list _ => some false
    | _ => none
  | .d (.bool a), .d (.bool b) => some (a == b)
  | _, _ => none
def cmpSem : Cop → Vw → Vw → Option Bool
  | .eq, u, w => u.dat.bind fun x => w.dat.bind fun y => eqD x y
  | .ne, u, w => u.dat.bind fun x => w.dat.bind fun y => (eqD x y).map (!·)
  | .lt, .d x, .d y => if cmpOk x y then some (PySem.W.dataLt x y) else none
  | .le, .d x, .d y => if cmpOk x y then some (!PySem.W.dataLt y x) else none
  | .gt, .d x, .d y => if cmpOk x y then some (PySem.W.dataLt y x) else none
  | .ge, .d x, .d y => if cmpOk x y then some (!PySem.W.dataLt x y) else none
  | .isin, u, w => inSem u w
  | .notin, u, w => (inSem u w).map (!·)
  | .is, u, w => isSem u w
  | .isnot, u, w => (isSem u w).map (!·)
  | _, _, _ => none
def truSem : Vw → Option Bool
  | .d .none => some false
  | .d (.bool b) => some b
  | .d (.int i) => some (i != 0)
  | .d (.list xs) => some (!xs.isEmpty)
  | .h (.list xs) => some (!xs.isEmpty)
  | .d (.tuple xs) => some (!xs.isEmpty)
  | _ => none
def idxSem : Vw → Vw → Option O
  | .d (.list xs), .d (.int i) => (atI xs i).map .d
  | .d (.tuple xs), .d (.int i) => (atI xs i).map .d
  | .dct t kvs, .d x => (toDK x).bind fun k => if k.tk = t then (kvGet kvs k).map .d else none
  | _, _ => none
def cutD (xs : List PyData) (lo hi : Option Int) : List PyData := (xs.drop (HT.sIx xs.length 0 lo)).take (HT.sIx xs.length xs.length hi - HT.sIx xs.length 0 lo)
def slcSem : Vw → Option Int → Option Int → Option O
  | .d (.list xs), lo, hi => some (.lst (cutD xs lo hi))
  | .d (.tuple xs), lo, hi => some (.d (.tuple (cutD xs lo hi)))
  | _, _, _ => none
def revSem : Vw → Option O
  | .d (.list xs) => some (.lst xs.reverse)
  | .d (.tuple xs) => some (.d (.tuple xs.reverse))
  | _ => none
def boolsOf : List PyData → Option (List Bool)
  | [] => some []
  | .bool b :: xs => (boolsOf xs).map (b :: ·)
  | _ => none
def intsOf : List PyData → Option (List Int)
  | [] => some []
  | .int i :: xs => (intsOf xs).map (i :: ·)
  | _ => none
/-- what type a value is, by its name -/
def tyOf : Vw → Option String
  | .d .none => some "NoneType"
  | .d (.bool _) => some "bool"
  | .d (.int _) => some "int"
  | .d (.str _) => some "str"
  | .d (.list _) => some "list"
  | .h (.list _) => some "list"
  | .d (.tuple _) => some "tuple"
  | .d (.dict []) => some "dict"
  | .dct _ _ => some "dict"
  | _ => none
/-- all can be compared with each other, and Python's sort goes one way with them -/
def isTup1 : PyData → Bool
  | .tuple _ => true
  | _ => false
def isOth : PyData → Bool
  | .tuple _ => false
  | .none => false
  | _ => true
def sortable (xs : List PyData) : Bool := (xs.all fun x => xs.all fun y => PySem.W.alike x y) && (xs.all isTup1 || xs.all isOth) && xs.all fun x => decide (x.depth ≤ 40)
def sortD (xs : List PyData) : List PyData := xs.mergeSort fun a b => !PySem.W.dataLt b a
mutual
def nolst : PyData → Bool
  | .list _ => false
  | .tuple xs => nolsts xs
  | _ => true
def nolsts : List PyData → Bool
  | [] => true
  | x :: xs => nolst x && nolsts xs
end
def pairsOf : List PyData → Option (List (PyData × PyData))
  | [] => some []
  | .tuple [a, b] :: xs => (pairsOf xs).map ((a, b) :: ·)
  | _ => none
def dictOf (t : Bool) : List (PyData × PyData) → KVs → Option KVs
  | [], acc => some acc
  | (a, b) :: r, acc => match toDK a with
    | some k => if k.tk = t then dictOf t r (kvPut acc k b) else none
    | none => none
inductive Prim where
  | len | abs | int | all | any | sum | max | min | max2 | min2 | tuple | list | sorted | repr
  | isi (T : String)
  deriving DecidableEq
inductive Mt where
  | get1 | get2
  deriving DecidableEq
def primSem : Prim → List Vw → Option O
  | .len, [.d (.list xs)] => some (.d (.int xs.length))
  | .len, [.h (.list xs)] => some (.d (.int xs.length))
  | .len, [.d (.tuple xs)] => some (.d (.int xs.length))
  | .len, [.dct _ kvs] => some (.d (.int kvs.length))
  | .abs, [.d (.int i)] => some (.d (.int (if i < 0 then -i else i)))
  | .int, [.d (.int i)] => some (.d (.int i))
  | .int, [.d (.bool b)] => some (.d (.int (if b then 1 else 0)))
  | .all, [.d (.list xs)] => (boolsOf xs).map fun bs => .d (.bool (bs.all id))
  | .any, [.d (.list xs)] => (boolsOf xs).map fun bs => .d (.bool (bs.any id))
  | .sum, [.d (.list xs)] => (intsOf xs).map fun ns => .d (.int ns.sum)
  | .max, [.d (.list xs)] => (intsOf xs).bind fun ns => ns.max?.map fun m => .d (.int m)
  | .min, [.d (.list xs)] => (intsOf xs).bind fun ns => ns.min?.map fun m => .d (.int m)
  | .max2, [.d (.int i), .d (.int j)] => some (.d (.int (if j > i then j else i)))
  | .min2, [.d (.int i), .d (.int j)] => some (.d (.int (if j < i then j else i)))
  | .tuple, [.d (.list xs)] => some (if noKey xs then .pt xs else .d (.tuple xs))
  | .tuple, [.d (.tuple xs)] => some (.d (.tuple xs))
  | .list, [.d (.list xs)] => some (.lst xs)
  | .list, [.d (.tuple xs)] => some (.lst xs)
  | .sorted, [.d (.list xs)] => if sortable xs then some (.lst (sortD xs)) else none
  | .sorted, [.dct _ kvs] => if sortable (kvs.map fun p => p.1.dat) then some (.lst (sortD (kvs.map fun p => p.1.dat))) else none
  | .repr, [u] => u.dat.bind fun x => if x.showable && decide (x.depth ≤ 40) && decide (x.shown.length ≤ sizeLine) && (!x.hasDict || nolst x) then some (.d (.str x.shown)) else none
  | .isi T, [u] => (tyOf u).bind fun t => (kitB t T).map fun b => .d (.bool b)
  | _, _ => none
/-- dict(x), x a list or tuple of pairs -/
def seqP (st : St) : O → Option (List PyData)
  | .pt xs => some xs
  | .lst xs => some xs
  | .d (.list xs) => some xs
  | .bor i => match st.ρ[i]? with
    | some (some (.lst xs)) => some xs
    | _ => none
  | _ => none
/-- dict(x), x a list of pairs -/
def seqL (st : St) : O → Option (List PyData)
  | .lst xs => some xs
  | .d (.list xs) => some xs
  | .bor i => match st.ρ[i]? with
    | some (some (.lst xs)) => some xs
    | _ => none
  | _ => none
def mtSem : Mt → List Vw → Option O
  | .get1, [.dct t kvs, .d x] => (toDK x).bind fun k => if k.tk = t then some (.d ((kvGet kvs k).getD .none)) else none
  | .get2, [.dct t kvs, .d x, .d (.int y)] => (toDK x).bind fun k => if k.tk = t then some (.d ((kvGet kvs k).getD (.int y))) else none
  | _, _ => none

/-- what a method's receiver must be ahead of the arguments -/
def mtTy : Mt → Vw → Bool
  | _, .dct _ _ => true
  | _, _ => false

/-! ### the language -/
mutual
inductive Tg where
  | nm (i : Nat)
  | tp (ts : Tgs)
inductive Tgs where
  | nil
  | cons (t : Tg) (ts : Tgs)
end
mutual
inductive E where
  | int (i : Int) | bl (b : Bool) | non | str (s : Str)
  /-- a name whose value goes on; looked at; moved out -/
  | var (i : Nat) | bor (i : Nat) | mov (i : Nat)
  | bin (op : Bop) (a b : E)
  | neg (a : E)
  | cmp (op : Cop) (a b : E)
  | chain (op op' : Cop) (a b c : E)
  | not (a : T)
  | and (a b : E) | or (a b : E)
  | ife (c : T) (a b : E)
  | tup (es : Es) | lst (es : Es)
  | idx (a i : E)
  | slc (a : E) (lo hi : Oe)
  | rev (a : E)
  | fn (p : Prim) (es : Es)
  | mt (m : Mt) (a : E) (es : Es)
  | pop (i : Nat) | popi (i : Nat) (e : E)
  | call (f : Str) (es : Es) | calls (f : Str) (es : Es)
  | lc (m : Bool) (elt : E) (tg : Tg) (it : It) (c : Oc) (own : List Nat)
  | rng (l : Bool) (a b : E) | rng0 (l : Bool) (b : E)
  | dnew (t : Bool)
  /-- dict(e) -/
  | dof (t : Bool) (e : E)
  /-- of the source in slot i: one of its numbers; how many cells; its last cell taken out -/
  | sg (i : Nat) (k : Str) | sl (i : Nat) | sp (i : Nat)
inductive Es where
  | nil
  | cons (e : E) (es : Es)
  /-- *e -/
  | star (e : E) (es : Es)
inductive Oe where
  | no
  | yes (e : E)
inductive Oc where
  | no
  | yes (c : T)
inductive T where
  | v (e : E)
  | and (a b : T) | or (a b : T) | not (a : T)
inductive It where
  | seq (e : E)
  | rng1 (b : E) | rng2 (a b : E) | rng3 (a b c : E)
  | enum (e : E) | zip (a b : E) | zips (a b : E)
end

abbrev PFn := List O → Option O
abbrev SFn := List O → Src → Option (O × Src)
structure Fs where
  p : Str → Option (Nat × PFn)
  s : Str → Option (Nat × SFn)

def St.set (st : St) (i : Nat) (o : Option O) : St := { st with ρ := st.ρ.set i o }
def O.free : O → Bool
  | .src => false
  | .bor _ => false
  | _ => true
def O.slot : O → Bool
  | .bor _ => false
  | _ => true
mutual
def asg : Tg → PyData → St → Option St
  | .nm i, x, st => if i < st.ρ.length then some (st.set i (some (.d x))) else none
  | .tp ts, .tuple xs, st => asgs ts xs st
  | .tp _, _, _ => none
def asgs : Tgs → List PyData → St → Option St
  | .nil, [], st => some st
  | .cons t ts, x :: xs, st => (asg t x st).bind fun s => asgs ts xs s
  | _, _, _ => none
end
def zipD : List PyData → List PyData → List PyData
  | x :: xs, y :: ys => .tuple [x, y] :: zipD xs ys
  | _, _ => []
/-- two lists, two tuples -/
def zip2 : List PyData → Option (List PyData × List PyData)
  | [.list xs, .list ys] => some (xs, ys)
  | [.tuple xs, .tuple ys] => some (xs, ys)
  | _ => none
def zip2t : List PyData → Option (List PyData × List PyData)
  | [.tuple xs, .tuple ys] => some (xs, ys)
  | _ => none
def enumD (i : Int) : List PyData → List PyData
  | [] => []
  | x :: xs => .tuple [.int i, x] :: enumD (i + 1) xs
def rngD (a : Int) (n : Nat) : List PyData := (List.range n).map fun (k : Nat) => PyData.int (a + (k : Int))
def inBnd (a : Int) : Bool := decide (-(2 ^ 62) ≤ a) && decide (a < 2 ^ 62)
/-- all frozen -/
def frzAll : List O → Option (List O)
  | [] => some []
  | o :: os => o.frz.bind fun o' => (frzAll os).map (o' :: ·)
def O.dat : O → Option PyData
  | .d x => some x
  | .pt xs => some (.tuple xs)
  | .lst xs => some (.list xs)
  | .mat rows => some (.list (rows.map .list))
  | .dct false [] => some (.dict [])
  | _ => none
def datAll : List O → Option (List PyData)
  | [] => some []
  | o :: os => o.dat.bind fun x => (datAll os).map (x :: ·)
def rowAll : List O → Option (List (List PyData))
  | [] => some []
  | .lst xs :: os => (rowAll os).map (xs :: ·)
  | _ => none
/-- some slots forgotten -/
def clr : List Nat → St → St
  | [], st => st
  | v :: vs, st => (clr vs st).set v none
/-- a comprehension's turns -/
def lcLoop (f : PyData → St → Option (Option O × St)) (own : List Nat) : List PyData → St → Option (List O × St)
  | [], st => some ([], st)
  | x :: xs, st => (f x st).bind fun (o, s1) => (lcLoop f own xs (clr own s1)).map fun (os, s2) => (o.toList ++ os, s2)
def vwAll (st : St) : List O → Option (List Vw)
  | [] => some []
  | o :: os => (vw st o).bind fun u => (vwAll st os).map (u :: ·)
def seqOf : PyData → Option (List PyData)
  | .list xs => some xs
  | .tuple xs => some xs
  | _ => none
def listOf : PyData → Option (List PyData)
  | .list xs => some xs
  | _ => none
def rdVar (st : St) (i : Nat) : Option (O × St) := match st.ρ[i]? with
  | some (some o) => o.frz.map fun o' => (o', st.set i (some o'))
  | _ => none
def rdBor (st : St) (i : Nat) : Option (O × St) := match st.ρ[i]? with
  | some (some (.d x)) => some (.d x, st)
  | some (some (.pt xs)) => some (.pt xs, st)
  | some (some (.fdct t kvs)) => some (.fdct t kvs, st)
  | some (some .src) => none
  | some (some (.bor _)) => none
  | some (some _) => some (.bor i, st)
  | _ => none
def rdMov (st : St) (i : Nat) : Option (O × St) := match st.ρ[i]? with
  | some (some .src) => none
  | some (some (.bor _)) => none
  | some (some o) => some (o, st.set i none)
  | _ => none
/-- a value taken out of slot i's list -/
def popAt (st : St) (i : Nat) (k : Int) : Option (O × St) := match st.ρ[i]? with
  | some (some (.lst xs)) => if -(2 ^ 63) ≤ k ∧ k < 2 ^ 63 then (seqIndex? k xs.length).bind fun j => (xs[j]?).map fun y => (.d y, st.set i (some (.lst (xs.eraseIdx j)))) else none
  | _ => none
def popLast (st : St) (i : Nat) : Option (O × St) := match st.ρ[i]? with
  | some (some (.lst xs)) => (xs[xs.length - 1]?).map fun y => (.d y, st.set i (some (.lst xs.dropLast)))
  | _ => none
/-- data that stays -/
def datO : O → Option PyData
  | .d x => some x
  | _ => none
/-- the members of what stands behind a star -/
def starO : O → Option (List O)
  | .d (.tuple xs) => some (xs.map .d)
  | .pt xs => some (xs.map .d)
  | .d (.list xs) => some (xs.map .d)
  | _ => none
def isSrc (st : St) (i : Nat) : Bool := match st.ρ[i]? with
  | some (some .src) => true
  | _ => false
def sget (s : Src) (k : Str) : Option Int := if k = Str.ofString "left" then some s.left else if k = Str.ofString "mixed" then some s.mixed else if k = Str.ofString "turn" then some s.turn else none
def sput (s : Src) (k : Str) (v : Int) : Option Src := if k = Str.ofString "left" then some { s with left := v } else if k = Str.ofString "mixed" then some { s with mixed := v } else if k = Str.ofString "turn" then some { s with turn := v } else none
section
variable (Φ : Fs)
mutual
def evE : E → St → Option (O × St)
  | .int i, st => some (.d (.int i), st)
  | .bl b, st => some (.d (.bool b), st)
  | .non, st => some (.d .none, st)
  | .str s, st => some (.d (.str s), st)
  | .var i, st => rdVar st i
  | .bor i, st => rdBor st i
  | .mov i, st => rdMov st i
  | .bin op a b, st => (evE a st).bind fun (x, s1) => (evE b s1).bind fun (y, s2) => (vw s2 x).bind fun u => (vw s2 y).bind fun w => (binSem op u w).map fun r => (r, s2)
  | .neg a, st => (evE a st).bind fun (x, s1) => match x with
    | .d (.int i) => some (.d (.int (-i)), s1)
    | _ => none
  | .cmp op a b, st => (evE a st).bind fun (x, s1) => (evE b s1).bind fun (y, s2) => (vw s2 x).bind fun u => (vw s2 y).bind fun w => (cmpSem op u w).map fun r => (.d (.bool r), s2)
  | .chain op op' a b c, st => (evE a st).bind fun (x, s1) => (evE b s1).bind fun (y, s2) => (datO y).bind fun w => (vw s2 x).bind fun u => (cmpSem op u (.d w)).bind fun r =>
      if r then (evE c s2).bind fun (z, s3) => (vw s3 z).bind fun q => (cmpSem op' (.d w) q).map fun r' => (.d (.bool r'), s3) else some (.d (.bool false), s2)
  | .not a, st => (evT a st).map fun (b, s1) => (.d (.bool (!b)), s1)
  | .and a b, st => (evE a st).bind fun (x, s1) => match x with
    | .d (.bool true) => evE b s1
    | .d (.bool false) => some (.d (.bool false), s1)
    | _ => none
  | .or a b, st => (evE a st).bind fun (x, s1) => match x with
    | .d (.bool true) => some (.d (.bool true), s1)
    | .d (.bool false) => evE b s1
    | _ => none
  | .ife c a b, st => (evT c st).bind fun (t, s1) => if t then evE a s1 else evE b s1
  | .tup es, st => (evEs es st).bind fun (os, s1) => if os.length ≤ sizeLine then (datAll os).map fun xs => (.d (.tuple xs), s1) else none
  | .lst es, st => (evEs es st).bind fun (os, s1) => if os.length ≤ sizeLine then (datAll os).map fun xs => (.lst xs, s1) else none
  | .idx a i, st => (evE a st).bind fun (x, s1) => (evE i s1).bind fun (y, s2) => (vw s2 x).bind fun u => (vw s2 y).bind fun w => (idxSem u w).map fun r => (r, s2)
  | .slc a lo hi, st => (evE a st).bind fun (x, s1) => (evOe lo s1).bind fun (l, s2) => (evOe hi s2).bind fun (h, s3) => (vw s3 x).bind fun u => (slcSem u l h).map fun r => (r, s3)
  | .rev a, st => (evE a st).bind fun (x, s1) => (vw s1 x).bind fun u => (revSem u).map fun r => (r, s1)
  | .fn p es, st => (evEs es st).bind fun (os, s1) => (vwAll s1 os).bind fun us => (primSem p us).map fun r => (r, s1)
  | .mt m a es, st => (evE a st).bind fun (x, s1) => (vw s1 x).bind fun u0 => if mtTy m u0 then (evEs es s1).bind fun (os, s2) => (vwAll s2 (x :: os)).bind fun us => (mtSem m us).map fun r => (r, s2) else none
  | .pop i, st => popLast st i
  | .popi i e, st => match st.ρ[i]? with
    | some (some (.lst _)) => (evE e st).bind fun (x, s1) => (match x with
      | .d (.int k) => popAt s1 i k
      | _ => none)
    | _ => none
  | .call f es, st => (evEs es st).bind fun (os, s1) => (frzAll os).bind fun qs => match Φ.p f with
    | some (n, φ) => if qs.length = n ∧ qs.all O.free = true then (φ qs).map fun r => (r, s1) else none
    | none => none
  | .calls f es, st => (evEs es st).bind fun (os, s1) => (frzAll os).bind fun qs => match Φ.s f, s1.src with
    | some (n, φ), some src => if qs.length = n then (φ qs src).map fun (r, src') => (r, { s1 with src := some src' }) else none
    | _, _ => none
  | .lc m elt tg it c own, st => (evIt it st).bind fun (xs, s1) =>
      (lcLoop (fun x s => (asg tg x s).bind fun s2 => (evOc c s2).bind fun (t, s3) => if t then (evE elt s3).map fun (o, s4) => (some o, s4) else some (none, s3)) own xs (clr own s1)).bind fun (os, s5) =>
        if os.length ≤ sizeLine then if m then (rowAll os).map fun rows => (.mat rows, s5) else (datAll os).map fun ys => (.lst ys, s5) else none
  | .rng l a b, st => (evE a st).bind fun (x, s1) => (evE b s1).bind fun (y, s2) => match x, y with
    | .d (.int i), .d (.int j) => if inBnd i && inBnd j && decide ((j - i).toNat ≤ sizeLine) then some (if l then .lst (rngD i (j - i).toNat) else .d (.tuple (rngD i (j - i).toNat)), s2) else none
    | _, _ => none
  | .rng0 l b, st => (evE b st).bind fun (y, s2) => match y with
    | .d (.int j) => if inBnd j && decide (j.toNat ≤ sizeLine) then some (if l then .lst (rngD 0 j.toNat) else .d (.tuple (rngD 0 j.toNat)), s2) else none
    | _ => none
  | .dnew t, st => some (.dct t [], st)
  | .dof t e, st => (evE e st).bind fun (x, s1) => if t then (seqP s1 x).bind fun xs => (pairsOf xs).bind fun ps => (dictOf true ps []).map fun kvs => (.dct true kvs, s1) else (seqL s1 x).bind fun xs => (pairsOf xs).bind fun ps => (dictOf false ps []).map fun kvs => (.dct false kvs, s1)
  | .sg i k, st => if isSrc st i then st.src.bind fun s => (sget s k).map fun v => (.d (.int v), st) else none
  | .sl i, st => if isSrc st i then st.src.map fun s => (.d (.int s.cells.length), st) else none
  | .sp i, st => if isSrc st i then st.src.bind fun s => (s.cells[s.cells.length - 1]?).map fun v => (.d (.int v), { st with src := some { s with cells := s.cells.dropLast } }) else none
def evEs : Es → St → Option (List O × St)
  | .nil, st => some ([], st)
  | .cons e es, st => (evE e st).bind fun (o, s1) => (evEs es s1).map fun (os, s2) => (o :: os, s2)
  | .star e es, st => (evE e st).bind fun (o, s1) => (starO o).bind fun ps => (evEs es s1).map fun (os, s2) => (ps ++ os, s2)
def evOe : Oe → St → Option (Option Int × St)
  | .no, st => some (none, st)
  | .yes e, st => (evE e st).bind fun (x, s1) => match x with
    | .d (.int i) => some (some i, s1)
    | _ => none
def evOc : Oc → St → Option (Bool × St)
  | .no, st => some (true, st)
  | .yes c, st => evT c st
def evT : T → St → Option (Bool × St)
  | .v e, st => (evE e st).bind fun (x, s1) => (vw s1 x).bind fun u => (truSem u).map fun b => (b, s1)
  | .and a b, st => (evT a st).bind fun (t, s1) => if t then evT b s1 else some (false, s1)
  | .or a b, st => (evT a st).bind fun (t, s1) => if t then some (true, s1) else evT b s1
  | .not a, st => (evT a st).map fun (t, s1) => (!t, s1)
def evIt : It → St → Option (List PyData × St)
  | .seq e, st => (evE e st).bind fun (x, s1) => x.dat.bind fun o => (seqOf o).map fun xs => (xs, s1)
  | .rng1 b, st => (evE b st).bind fun (y, s2) => match y with
    | .d (.int j) => if inBnd j then some (rngD 0 j.toNat, s2) else none
    | _ => none
  | .rng2 a b, st => (evE a st).bind fun (x, s1) => (evE b s1).bind fun (y, s2) => match x, y with
    | .d (.int i), .d (.int j) => if inBnd i && inBnd j then some (rngD i (j - i).toNat, s2) else none
    | _, _ => none
  | .rng3 a b c, st => none
  | .enum e, st => (evE e st).bind fun (x, s1) => x.dat.bind fun o => (listOf o).map fun xs => (enumD 0 xs, s1)
  | .zip a b, st => (evE a st).bind fun (x, s1) => (evE b s1).bind fun (y, s2) => (datAll [x, y]).bind fun ds => (zip2 ds).map fun (xs, ys) => (zipD xs ys, s2)
  | .zips a b, st => (evE a st).bind fun (x, s1) => (evE b s1).bind fun (y, s2) => (datAll [x, y]).bind fun ds => (zip2t ds).bind fun (xs, ys) => if xs.length = ys.length then some (zipD xs ys, s2) else none
end
end

/-! ### statements -/
mutual
inductive S where
  | set (i : Nat) (e : E)
  | par (is : List Nat) (es : Es)
  | unp (ts : Tgs) (e : E)
  | aug (i : Nat) (op : Bop) (e : E)
  | sti (i : Nat) (k e : E)
  | aui (i : Nat) (k : E) (op : Bop) (e : E)
  | app (i : Nat) (e : E)
  | ext (i : Nat) (e : E)
  | ap2 (i : Nat) (j e : E)
  | expr (e : E)
  | ifs (c : T) (a b : Ss)
  | forr (tg : Tg) (it : It) (body : Ss)
  | whl (fuel : Nat) (c : T) (body : Ss)
  | ret (e : E) | retn
  | brk | cnt | pass
  /-- a number of the source in slot i stored -/
  | sw (i : Nat) (k : Str) (e : E)
inductive Ss where
  | nil
  | cons (s : S) (ss : Ss)
end
inductive Out where
  | nx (st : St)
  | ret (o : O) (src : Option Src)
  | brk (st : St)
  | cnt (st : St)
/-- a loop's turns -/
def forLoop (f : PyData → St → Option Out) : List PyData → St → Option Out
  | [], st => some (.nx st)
  | x :: xs, st => match f x st with
    | some (.nx s) => forLoop f xs s
    | some (.cnt s) => forLoop f xs s
    | some (.brk s) => some (.nx s)
    | some (.ret o s) => some (.ret o s)
    | none => none
def whlLoop (c : St → Option (Bool × St)) (f : St → Option Out) : Nat → St → Option Out
  | 0, _ => none
  | n + 1, st => match c st with
    | some (true, s1) => (match f s1 with
      | some (.nx s) => whlLoop c f n s
      | some (.cnt s) => whlLoop c f n s
      | some (.brk s) => some (.nx s)
      | some (.ret o s) => some (.ret o s)
      | none => none)
    | some (false, s1) => some (.nx s1)
    | none => none
/-- a value goes into slot i -/
def put (st : St) (i : Nat) (o : O) : Option St := if i < st.ρ.length ∧ o.slot = true then some (st.set i (some o)) else none
def puts : List Nat → List O → St → Option St
  | [], [], st => some st
  | i :: is, o :: os, st => (put st i o).bind fun s => puts is os s
  | _, _, _ => none
/-- x[k] = v -/
def stAt (st : St) (i : Nat) (k v : O) : Option St := match st.ρ[i]?, k, v.dat with
  | some (some (.lst xs)), .d (.int n), some y => (ixN xs.length n).map fun j => st.set i (some (.lst (xs.set j y)))
  | some (some (.dct t kvs)), .d x, some y => (toDK x).bind fun q => if q.tk = t ∧ kvs.length < sizeLine then some (st.set i (some (.dct t (kvPut kvs q y)))) else none
  | _, _, _ => none
def getAt (st : St) (i : Nat) (k : O) : Option PyData := match st.ρ[i]?, k with
  | some (some (.lst xs)), .d (.int n) => atI xs n
  | some (some (.dct t kvs)), .d x => (toDK x).bind fun q => if q.tk = t then kvGet kvs q else none
  | _, _ => none
def augSem : Bop → PyData → PyData → Option PyData
  | .add, .int i, .int j => some (.int (i + j))
  | .sub, .int i, .int j => some (.int (i - j))
  | _, _, _ => none
def appAt (st : St) (i : Nat) (v : O) : Option St := match st.ρ[i]?, v.dat with
  | some (some (.lst xs)), some y => if xs.length < sizeLine then some (st.set i (some (.lst (xs ++ [y])))) else none
  | _, _ => none
def app2At (st : St) (i : Nat) (k v : O) : Option St := match st.ρ[i]?, k, v.dat with
  | some (some (.mat rows)), .d (.int n), some y => (ixN rows.length n).bind fun j => (rows[j]?).bind fun row => if row.length < sizeLine then some (st.set i (some (.mat (rows.set j (row ++ [y]))))) else none
  | _, _, _ => none
section
variable (Φ : Fs)
mutual
def evS : S → St → Option Out
  | .set i e, st => (evE Φ e st).bind fun (o, s1) => (put s1 i o).map .nx
  | .par is es, st => (evEs Φ es st).bind fun (os, s1) => (puts is os s1).map .nx
  | .unp ts e, st => (evE Φ e st).bind fun (o, s1) => o.dat.bind fun d => (asg (.tp ts) d s1).map .nx
  | .aug i op e, st => match st.ρ[i]? with
    | some (some (.d x)) => (evE Φ e st).bind fun (o, s1) => (match o with
      | .d y => (augSem op x y).bind fun z => (put s1 i (.d z)).map .nx
      | _ => none)
    | _ => none
  | .sti i k e, st => match st.ρ[i]? with
    | some (some _) => (evE Φ e st).bind fun (v, s1) => (evE Φ k s1).bind fun (o, s2) => (stAt s2 i o v).map .nx
    | _ => none
  | .aui i k op e, st => match st.ρ[i]? with
    | some (some _) => (evE Φ k st).bind fun (o, s1) => (getAt s1 i o).bind fun x => (evE Φ e s1).bind fun (v, s2) => (match v with
      | .d y => (augSem op x y).bind fun z => (stAt s2 i o (.d z)).map .nx
      | _ => none)
    | _ => none
  | .app i e, st => match st.ρ[i]? with
    | some (some (.lst _)) => (evE Φ e st).bind fun (v, s1) => (appAt s1 i v).map .nx
    | _ => none
  | .ext i e, st => none
  | .ap2 i j e, st => (evE Φ j st).bind fun (o, s1) => (evE Φ e s1).bind fun (v, s2) => (app2At s2 i o v).map .nx
  | .expr e, st => (evE Φ e st).map fun (_, s1) => .nx s1
  | .ifs c a b, st => (evT Φ c st).bind fun (t, s1) => if t then evSs a s1 else evSs b s1
  | .forr tg it body, st => (evIt Φ it st).bind fun (xs, s1) => forLoop (fun x s => (asg tg x s).bind fun s2 => evSs body s2) xs s1
  | .whl fuel c body, st => whlLoop (evT Φ c) (evSs body) fuel st
  | .ret e, st => (evE Φ e st).bind fun (o, s1) => if o.slot then some (.ret o s1.src) else none
  | .retn, st => some (.ret (.d .none) st.src)
  | .brk, st => some (.brk st)
  | .cnt, st => some (.cnt st)
  | .pass, st => some (.nx st)
  | .sw i k e, st => if isSrc st i then (evE Φ e st).bind fun (o, s1) => match o with
    | .d (.int v) => s1.src.bind fun s => (sput s k v).map fun s' => .nx { s1 with src := some s' }
    | _ => none else none
def evSs : Ss → St → Option Out
  | .nil, st => some (.nx st)
  | .cons s ss, st => match evS s st with
    | some (.nx s1) => evSs ss s1
    | r => r
end
/-- a def's body, called -/
def initR (n : Nat) (os : List O) : List (Option O) := os.map some ++ List.replicate (n - os.length) none
def runP (n : Nat) (body : Ss) (os : List O) : Option O := match evSs Φ body ⟨initR n os, none⟩ with
  | some (.ret o _) => some o
  | some (.nx _) => some (.d .none)
  | _ => none
def runS (n : Nat) (body : Ss) (os : List O) (src : Src) : Option (O × Src) := match evSs Φ body ⟨initR n os, some src⟩ with
  | some (.ret o (some s)) => some (o, s)
  | some (.nx st) => st.src.map fun s => (.d .none, s)
  | _ => none
end
end Vm


set_option Elab.async false
set_option linter.all false
set_option maxRecDepth 100000
/-! Vm, part 3: the evaluator as a reading of the hand layer; what happens to slots. -/
namespace Vm
open PySem PySem.Spec PyProof.Rows L2

/-! ### readings -/
structure Post (K : PySem.W.Frag) (F H : Hp) (S : List Addr) (σ : L2.St) (A : Nat → List Addr) (o : O) (st' : St) (v : V) (F' H' : Hp) (A' : Nat → List Addr) (B : List Addr) : Prop where
  step : Step F H (Ow S A) F' H' (fun b => Ow S A' b ∨ b ∈ B)
  rel : Rel K F' H' S σ st' A'
  own : OwnAt K F' H' S σ o v B
  nod : B.Nodup
  new : ∀ b ∈ B, F' b = none ∧ ¬ Ow S A' b ∧ Mu H' b
structure PostT (K : PySem.W.Frag) (F H : Hp) (S : List Addr) (σ σ' : L2.St) (A : Nat → List Addr) (st' : St) (F' H' : Hp) (A' : Nat → List Addr) : Prop where
  step : Step F H (Ow S A) F' H' (Ow S A')
  rel : Rel K F' H' S σ' st' A'

inductive OwnAll (K : PySem.W.Frag) (F H : Hp) (S : List Addr) (σ : L2.St) : List O → List V → List Addr → Prop
  | nil : OwnAll K F H S σ [] [] []
  | cons {o : O} {v : V} {B : List Addr} {os : List O} {vs : List V} {Bs : List Addr} : OwnAt K F H S σ o v B → OwnAll K F H S σ os vs Bs → OwnAll K F H S σ (o :: os) (v :: vs) (B ++ Bs)
structure PostL (K : PySem.W.Frag) (F H : Hp) (S : List Addr) (σ : L2.St) (A : Nat → List Addr) (os : List O) (st' : St) (vs : List V) (F' H' : Hp) (A' : Nat → List Addr) (B : List Addr) : Prop where
  step : Step F H (Ow S A) F' H' (fun b => Ow S A' b ∨ b ∈ B)
  rel : Rel K F' H' S σ st' A'
  own : OwnAll K F' H' S σ os vs B
  nod : B.Nodup
  new : ∀ b ∈ B, F' b = none ∧ ¬ Ow S A' b ∧ Mu H' b

def tE (Φ : Fs) (K : PySem.W.Frag) (e : E) : TE := fun σ H Q => ∃ F S st A o st', Rel K F H S σ st A ∧ evE Φ e st = some (o, st') ∧ ∀ v F' H' A' B, Post K F H S σ A o st' v F' H' A' B → Q v H'
def tEs (Φ : Fs) (K : PySem.W.Frag) (es : Es) : TA := fun σ H Q => ∃ F S st A os st', Rel K F H S σ st A ∧ evEs Φ es st = some (os, st') ∧ ∀ vs F' H' A' B, PostL K F H S σ A os st' vs F' H' A' B → Q vs H'
def tT (Φ : Fs) (K : PySem.W.Frag) (c : T) : TT := fun σ H Q => ∃ F S st A b st', Rel K F H S σ st A ∧ evT Φ c st = some (b, st') ∧ ∀ F' H' A', PostT K F H S σ σ A st' F' H' A' → Q b H'
def tOe (Φ : Fs) (K : PySem.W.Frag) (e : Oe) : TO := fun σ H Q => ∃ F S st A o st', Rel K F H S σ st A ∧ evOe Φ e st = some (o, st') ∧ ∀ F' H' A', PostT K F H S σ σ A st' F' H' A' → Q o H'

theorem PE.imp {X : Cx} {e : Expr} {t t' : TE} (h : PE X e t) (i : ∀ σ H Q, t' σ H Q → t σ H Q) : PE X e t' := ⟨fun pins s σ H Q I q => h.run pins s σ H Q I (i σ H Q q)⟩
theorem PT.imp {X : Cx} {e : Expr} {t t' : TT} (h : PT X e t) (i : ∀ σ H Q, t' σ H Q → t σ H Q) : PT X e t' := ⟨fun pins s σ H Q I q => h.run pins s σ H Q I (i σ H Q q)⟩
theorem PW.imp {X : Cx} {e : Expr} {t t' : TT} (h : PW X e t) (i : ∀ σ H Q, t' σ H Q → t σ H Q) : PW X e t' := ⟨fun whole pins s σ H Q I q => h.run whole pins s σ H Q I (i σ H Q q)⟩
theorem PA.imp {X : Cx} {es : List Expr} {t t' : TA} (h : PA X es t) (i : ∀ σ H Q, t' σ H Q → t σ H Q) : PA X es t' := ⟨fun pos pins s σ H Q I q => h.run pos pins s σ H Q I (i σ H Q q)⟩
theorem PS.imp {X : Cx} {st : Stmt} {t t' : TS} (h : PS X st t) (i : ∀ D σ H, t' D σ H → t D σ H) : PS X st t' := ⟨fun pins s σ H D I q => h.run pins s σ H D I (i D σ H q)⟩
theorem PSs.imp {X : Cx} {st : List Stmt} {t t' : TS} (h : PSs X st t) (i : ∀ D σ H, t' D σ H → t D σ H) : PSs X st t' := ⟨fun pins s σ H D I q => h.run pins s σ H D I (i D σ H q)⟩
theorem PE.or {X : Cx} {e : Expr} {t t' : TE} (h : PE X e t) (h' : PE X e t') : PE X e (fun σ H Q => t σ H Q ∨ t' σ H Q) := ⟨fun pins s σ H Q I q => q.elim (h.run pins s σ H Q I) (h'.run pins s σ H Q I)⟩
theorem PS.or {X : Cx} {e : Stmt} {t t' : TS} (h : PS X e t) (h' : PS X e t') : PS X e (fun D σ H => t D σ H ∨ t' D σ H) := ⟨fun pins s σ H D I q => q.elim (h.run pins s σ H D I) (h'.run pins s σ H D I)⟩
theorem OpR.imp {X : Cx} {f : Value → Value → Sem Value} {r r' : R2} (h : OpR X f r) (i : ∀ x y H Q, r' x y H Q → r x y H Q) : OpR X f r' := fun pins s σ H x y v u Q I rx ry q => h pins s σ H x y v u Q I rx ry (i x y H Q q)

/-! ### nothing happens -/
theorem Post.here {K : PySem.W.Frag} {F H : Hp} {S : List Addr} {σ : L2.St} {A : Nat → List Addr} {st : St} {o : O} {v : V} (R : Rel K F H S σ st A) (h : OwnAt K F H S σ o v []) : Post K F H S σ A o st v F H A [] :=
  ⟨Step.refl.weak fun b h => h.elim id (fun z => nomatch z), R, h, List.nodup_nil, fun _ z => nomatch z⟩
theorem PostT.here {K : PySem.W.Frag} {F H : Hp} {S : List Addr} {σ : L2.St} {A : Nat → List Addr} {st : St} (R : Rel K F H S σ st A) : PostT K F H S σ σ A st F H A := ⟨Step.refl, R⟩

/-! ### slots -/
def upA (A : Nat → List Addr) (i : Nat) (B : List Addr) : Nat → List Addr := fun j => if j = i then B else A j
theorem upA_same {A : Nat → List Addr} {i : Nat} {B : List Addr} : upA A i B i = B := if_pos rfl
theorem upA_ne {A : Nat → List Addr} {i j : Nat} {B : List Addr} (h : j ≠ i) : upA A i B j = A j := if_neg h
theorem slot_of {K : PySem.W.Frag} {F H : Hp} {S : List Addr} {σ : L2.St} {st : St} {A : Nat → List Addr} (R : Rel K F H S σ st A) {i : Nat} {o : O} (e : st.ρ[i]? = some (some o)) : ∃ v, σ[i]? = some (some v) ∧ OwnAt K F H S σ o v (A i) := R.slots i o e
theorem lt_of_slot {st : St} {i : Nat} {o : O} (e : st.ρ[i]? = some (some o)) : i < st.ρ.length := (List.getElem?_eq_some_iff.mp e).1
theorem set_get_same {st : St} {i : Nat} {o : Option O} (h : i < st.ρ.length) : (st.set i o).ρ[i]? = some o := by
  show (st.ρ.set i o)[i]? = some o
  rw [List.getElem?_set_self h]
theorem set_get_ne {st : St} {i j : Nat} {o : Option O} (h : j ≠ i) : (st.set i o).ρ[j]? = st.ρ[j]? := by
  show (st.ρ.set i o)[j]? = st.ρ[j]?
  rw [List.getElem?_set_ne (Ne.symm h)]
/-- slot i is given a value anew: its old things are dropped. σ' agrees with σ elsewhere -/
theorem Rel.slot {K : PySem.W.Frag} {F H : Hp} {S : List Addr} {σ σ' : L2.St} {st : St} {A : Nat → List Addr} (R : Rel K F H S σ st A) {i : Nat} {o : O} {v : V} {B : List Addr} (hi : i < st.ρ.length) (hs : o.slot = true)
    (h : OwnAt K F H S σ' o v B) (e : σ'[i]? = some (some v)) (ne : ∀ j, j ≠ i → σ'[j]? = σ[j]?) (nod : B.Nodup) (new : ∀ b ∈ B, F b = none ∧ b ∉ S ∧ Mu H b ∧ ∀ j, j ≠ i → b ∉ A j) : Rel K F H S σ' (st.set i (some o)) (upA A i B) where
  same := R.same
  slots := fun j u z => by
    by_cases q : j = i
    · subst q
      rw [set_get_same hi] at z
      cases z
      exact ⟨v, e, by rw [upA_same]; exact h⟩
    · rw [set_get_ne q] at z
      obtain ⟨w, h1, h2⟩ := R.slots j u z
      refine ⟨w, (ne j q).trans h1, ?_⟩
      rw [upA_ne q]
      cases u with
      | d x => exact h2
      | pt xs => exact h2
      | lst xs => exact h2
      | mat rows => exact h2
      | dct t kvs => exact h2
      | fdct t kvs => exact h2
      | src => exact h2
      | bor k => exact absurd z (R.nobor j k)
  nobor := fun j k z => by
    by_cases q : j = i
    · subst q
      rw [set_get_same hi] at z
      cases z
      cases hs
    · rw [set_get_ne q] at z
      exact R.nobor j k z
  nod := fun j => by
    by_cases q : j = i
    · subst q; rw [upA_same]; exact nod
    · rw [upA_ne q]; exact R.nod j
  dis := fun j k b h1 h2 => by
    by_cases q : j = i
    · by_cases r : k = i
      · rw [q, r]
      · rw [q, upA_same] at h1
        rw [upA_ne r] at h2
        exact absurd h2 ((new b h1).2.2.2 k r)
    · rw [upA_ne q] at h1
      by_cases r : k = i
      · rw [r, upA_same] at h2
        exact absurd h1 ((new b h2).2.2.2 j q)
      · rw [upA_ne r] at h2
        exact R.dis j k b h1 h2
  out := fun j b hb => by
    by_cases q : j = i
    · rw [q, upA_same] at hb
      exact ⟨(new b hb).1, (new b hb).2.1, (new b hb).2.2.1⟩
    · rw [upA_ne q] at hb
      exact R.out j b hb
  emp := fun j hj => by
    by_cases q : j = i
    · subst q
      exact absurd (set_get_same hi) (hj o)
    · rw [upA_ne q]
      exact R.emp j fun u z => hj u (by rw [set_get_ne q]; exact z)
  src := R.src
  len := by
    show (st.ρ.set i (some o)).length ≤ σ'.length
    rw [List.length_set]
    have hl := R.len
    refine Nat.le_of_not_lt fun z => ?_
    have h1 : σ'[σ'.length]? = none := List.getElem?_eq_none (Nat.le_refl _)
    by_cases q : σ'.length = i
    · rw [← q] at e; rw [h1] at e; cases e
    · rw [ne _ q] at h1
      have := List.getElem?_eq_none_iff.mp h1
      omega
/-- slot i is forgotten -/
theorem Rel.drop {K : PySem.W.Frag} {F H : Hp} {S : List Addr} {σ σ' : L2.St} {st : St} {A : Nat → List Addr} (R : Rel K F H S σ st A) {i : Nat} (ne : ∀ j, j ≠ i → σ'[j]? = σ[j]?) (hl : σ.length ≤ σ'.length := by exact Nat.le_refl _) : Rel K F H S σ' (st.set i none) (upA A i []) where
  same := R.same
  slots := fun j u z => by
    by_cases q : j = i
    · subst q
      by_cases hi : j < st.ρ.length
      · rw [set_get_same hi] at z; cases z
      · have : (st.set j none).ρ[j]? = none := List.getElem?_eq_none (by show (st.ρ.set j none).length ≤ j; rw [List.length_set]; omega)
        rw [this] at z; cases z
    · rw [set_get_ne q] at z
      obtain ⟨w, h1, h2⟩ := R.slots j u z
      refine ⟨w, (ne j q).trans h1, ?_⟩
      rw [upA_ne q]
      cases u with
      | d x => exact h2
      | pt xs => exact h2
      | lst xs => exact h2
      | mat rows => exact h2
      | dct t kvs => exact h2
      | fdct t kvs => exact h2
      | src => exact h2
      | bor k => exact absurd z (R.nobor j k)
  nobor := fun j k z => by
    by_cases q : j = i
    · subst q
      by_cases hi : j < st.ρ.length
      · rw [set_get_same hi] at z; cases z
      · have : (st.set j none).ρ[j]? = none := List.getElem?_eq_none (by show (st.ρ.set j none).length ≤ j; rw [List.length_set]; omega)
        rw [this] at z; cases z
    · rw [set_get_ne q] at z
      exact R.nobor j k z
  nod := fun j => by
    by_cases q : j = i
    · subst q; rw [upA_same]; exact List.nodup_nil
    · rw [upA_ne q]; exact R.nod j
  dis := fun j k b h1 h2 => by
    by_cases q : j = i
    · rw [q, upA_same] at h1; cases h1
    · rw [upA_ne q] at h1
      by_cases r : k = i
      · rw [r, upA_same] at h2; cases h2
      · rw [upA_ne r] at h2
        exact R.dis j k b h1 h2
  out := fun j b hb => by
    by_cases q : j = i
    · rw [q, upA_same] at hb; cases hb
    · rw [upA_ne q] at hb
      exact R.out j b hb
  emp := fun j hj => by
    by_cases q : j = i
    · subst q; rw [upA_same]
    · rw [upA_ne q]
      exact R.emp j fun u z => hj u (by rw [set_get_ne q]; exact z)
  src := R.src
  len := by
    show (st.ρ.set i none).length ≤ σ'.length
    rw [List.length_set]
    exact Nat.le_trans R.len hl
theorem ow_up {S : List Addr} {A : Nat → List Addr} {i : Nat} {b : Addr} (h : Ow S (upA A i []) b) : Ow S A b := by
  rcases h with h | ⟨j, h⟩
  · exact .inl h
  · by_cases q : j = i
    · rw [q, upA_same] at h; cases h
    · rw [upA_ne q] at h; exact .inr ⟨j, h⟩
theorem ow_upB {S : List Addr} {A : Nat → List Addr} {i : Nat} {B : List Addr} {b : Addr} (h : Ow S (upA A i B) b) : Ow S A b ∨ b ∈ B := by
  rcases h with h | ⟨j, h⟩
  · exact .inl (.inl h)
  · by_cases q : j = i
    · rw [q, upA_same] at h; exact .inr h
    · rw [upA_ne q] at h; exact .inl (.inr ⟨j, h⟩)

/-- slot i read so that its value goes on: frozen -/
theorem rdVar_ok {K : PySem.W.Frag} {F H : Hp} {S : List Addr} {σ : L2.St} {st st' : St} {A : Nat → List Addr} {i : Nat} {o : O} (R : Rel K F H S σ st A) (e : rdVar st i = some (o, st')) :
    ∃ v, σ[i]? = some (some v) ∧ Post K F H S σ A o st' v (absorb F H (A i)) H (upA A i []) [] := by
  unfold rdVar at e
  cases q : st.ρ[i]? with
  | none => rw [q] at e; cases e
  | some u =>
    cases u with
    | none => rw [q] at e; cases e
    | some u =>
      rw [q] at e
      obtain ⟨v, h1, h2⟩ := R.slots i u q
      have e : (u.frz.map fun o' => (o', st.set i (some o'))) = some (o, st') := e
      cases hf : u.frz with
      | none => rw [hf] at e; cases e
      | some w =>
        rw [hf] at e
        cases e
        have hz := h2.frz R.same hf
        have hB : ∀ b ∈ A i, ¬ Ow S (upA A i []) b := fun b hb z => by
          rcases z with z | ⟨j, z⟩
          · exact (R.out i b hb).2.1 z
          · by_cases r : j = i
            · rw [r, upA_same] at z; cases z
            · rw [upA_ne r] at z
              exact r (R.dis j i b z hb)
        have R1 : Rel K (absorb F H (A i)) H S σ (st.set i none) (upA A i []) := (R.drop (σ' := σ) fun _ _ => rfl).absorb hB
        have hi := lt_of_slot q
        have sl : o.slot = true := by
          cases u <;> first | (cases hf; rfl) | cases hf
        have R2 := R1.slot (i := i) (o := o) (v := v) (B := []) (σ' := σ) (by show i < (st.ρ.set i none).length; rw [List.length_set]; exact hi) sl hz h1 (fun _ _ => rfl) List.nodup_nil (fun _ z => nomatch z)
        have es : (st.set i none).set i (some o) = st.set i (some o) := by unfold St.set; simp
        have eA : upA (upA A i []) i [] = upA A i [] := by funext j; unfold upA; by_cases r : j = i <;> simp [r]
        rw [es, eA] at R2
        exact ⟨v, h1, ⟨absorb_step R.same (fun b hb => .inr ⟨i, hb⟩) (fun b h => h.elim ow_up (fun z => nomatch z)), R2, hz, List.nodup_nil, (fun _ z => nomatch z)⟩⟩
theorem rdBor_ok {K : PySem.W.Frag} {F H : Hp} {S : List Addr} {σ : L2.St} {st st' : St} {A : Nat → List Addr} {i : Nat} {o : O} (R : Rel K F H S σ st A) (e : rdBor st i = some (o, st')) :
    ∃ v, σ[i]? = some (some v) ∧ Post K F H S σ A o st' v F H A [] := by
  unfold rdBor at e
  cases q : st.ρ[i]? with
  | none => rw [q] at e; cases e
  | some u =>
    cases u with
    | none => rw [q] at e; cases e
    | some u =>
      rw [q] at e
      obtain ⟨v, h1, h2⟩ := R.slots i u q
      refine ⟨v, h1, ?_⟩
      cases u with
      | d x => cases e; exact .here R ⟨rfl, h2.2⟩
      | pt xs => cases e; exact .here R ⟨rfl, h2.2⟩
      | lst xs => cases e; exact .here R ⟨rfl, h1⟩
      | mat rows => cases e; exact .here R ⟨rfl, h1⟩
      | dct t kvs => cases e; exact .here R ⟨rfl, h1⟩
      | fdct t kvs =>
        cases e
        obtain ⟨a, e1, _, e3⟩ := h2
        exact .here R ⟨a, e1, rfl, e3⟩
      | src => cases e
      | bor k => cases e
theorem rdMov_ok {K : PySem.W.Frag} {F H : Hp} {S : List Addr} {σ : L2.St} {st st' : St} {A : Nat → List Addr} {i : Nat} {o : O} (R : Rel K F H S σ st A) (e : rdMov st i = some (o, st')) :
    ∃ v, σ[i]? = some (some v) ∧ Post K F H S σ A o st' v F H (upA A i []) (A i) := by
  unfold rdMov at e
  cases q : st.ρ[i]? with
  | none => rw [q] at e; cases e
  | some u =>
    cases u with
    | none => rw [q] at e; cases e
    | some u =>
      rw [q] at e
      obtain ⟨v, h1, h2⟩ := R.slots i u q
      have e' : (u, st.set i none) = (o, st') := by
        cases u with
        | d x => exact Option.some.inj e
        | pt xs => exact Option.some.inj e
        | lst xs => exact Option.some.inj e
        | mat rows => exact Option.some.inj e
        | dct t kvs => exact Option.some.inj e
        | fdct t kvs => exact Option.some.inj e
        | src => cases e
        | bor k => cases e
      cases e'
      refine ⟨v, h1, ⟨⟨Same.refl _, fun _ _ h _ => h, fun _ h => h, fun b h => .inl ?_, fun _ h => .inl h⟩, R.drop fun _ _ => rfl, h2, R.nod i, fun b hb => ⟨(R.out i b hb).1, fun z => ?_, (R.out i b hb).2.2⟩⟩⟩
      · rcases h with h | h
        · exact ow_up h
        · exact .inr ⟨i, h⟩
      · rcases z with z | ⟨j, z⟩
        · exact (R.out i b hb).2.1 z
        · by_cases r : j = i
          · rw [r, upA_same] at z; cases z
          · rw [upA_ne r] at z
            exact r (R.dis j i b z hb)

/-! ### views -/
def VwAt (K : PySem.W.Frag) (F H : Hp) (v : V) : Vw → Prop
  | .d x => Den K F v x ∨ ∃ a vs xs, v = .ref a ∧ x = .list xs ∧ H a = some (.lst vs) ∧ DenAll K F vs xs
  | .h x => Den K H v x
  | .dct t kvs => ∃ a, v = .ref a ∧ DctAt K F H a t kvs
theorem RowsAt.den {K : PySem.W.Frag} {F H : Hp} (s : Same F H) : ∀ {bs : List Addr} {rows : List (List PyData)}, RowsAt K F H bs rows → DenAll K H (bs.map V.ref) (rows.map .list)
  | _, _, .nil => .nil
  | _, _, .cons ⟨vs, h1, h2⟩ t => .cons (.lst h1 (h2.mono s)) (RowsAt.den s t)
theorem vw0_ok {K : PySem.W.Frag} {F H : Hp} {S : List Addr} {σ : L2.St} {o : O} {v : V} {B : List Addr} {u : Vw} (s : Same F H) (h : OwnAt K F H S σ o v B) (e : vw0 o = some u) : VwAt K F H v u := by
  cases o with
  | d x => cases e; exact .inl h.2
  | pt xs => cases e; obtain ⟨_, a, vs, ob, e1, h1, h2, h3, h4⟩ := h; rw [e1]; exact .inl (.ftup h1 h2 h3 h4)
  | lst xs => cases e; obtain ⟨a, vs, e1, _, h1, h2⟩ := h; exact .inr ⟨a, vs, xs, e1, rfl, h1, h2⟩
  | mat rows => cases e; obtain ⟨a, bs, rfl, _, h1, h2⟩ := h; exact .lst h1 (h2.den s)
  | dct t kvs => cases e; obtain ⟨a, e1, _, h1⟩ := h; exact ⟨a, e1, h1⟩
  | fdct t kvs => cases e; obtain ⟨a, e1, _, h1⟩ := h; exact ⟨a, e1, h1.keep (Same.refl _) (s a)⟩
  | src => cases e
  | bor i => cases e
theorem vw_ok {K : PySem.W.Frag} {F H : Hp} {S : List Addr} {σ : L2.St} {st : St} {A : Nat → List Addr} {o : O} {v : V} {B : List Addr} {u : Vw} (R : Rel K F H S σ st A) (h : OwnAt K F H S σ o v B) (e : vw st o = some u) : VwAt K F H v u := by
  cases o with
  | bor i =>
    unfold vw at e
    cases q : st.ρ[i]? with
    | none => simp [q] at e
    | some w =>
      cases w with
      | none => simp [q] at e
      | some w =>
        simp only [q] at e
        obtain ⟨v', h1, h2⟩ := R.slots i w q
        have e1 : σ[i]? = some (some v) := h.2
        rw [h1] at e1
        cases e1
        exact vw0_ok R.same h2 e
  | d x => exact vw0_ok R.same h e
  | pt xs => exact vw0_ok R.same h e
  | lst xs => exact vw0_ok R.same h e
  | mat rows => exact vw0_ok R.same h e
  | dct t kvs => exact vw0_ok R.same h e
  | fdct t kvs => exact vw0_ok R.same h e
  | src => cases e

/-! ### what an operation by values gives -/
/-- the value r stands in the grown heap -/
structure ResAt (K : PySem.W.Frag) (F H : Hp) (r : O) (v : V) (F' H' : Hp) (B : List Addr) : Prop where
  grow : Grow F H F' H'
  own : OwnAt K F' H' [] [] r v B
  nod : B.Nodup
  new : ∀ b ∈ B, H b = none ∧ F' b = none ∧ Mu H' b
theorem OwnAt.any {K : PySem.W.Frag} {F H : Hp} {S S' : List Addr} {σ σ' : L2.St} {o : O} {v : V} {B : List Addr} (h : OwnAt K F H S σ o v B) (f : o.free = true) : OwnAt K F H S' σ' o v B := by
  cases o with
  | d x => exact h
  | pt xs => exact h
  | lst xs => exact h
  | mat rows => exact h
  | dct t kvs => exact h
  | fdct t kvs => exact h
  | src => cases f
  | bor i => cases f
theorem OwnAt.freeO {K : PySem.W.Frag} {F H : Hp} {o : O} {v : V} {B : List Addr} (h : OwnAt K F H [] [] o v B) : o.free = true := by
  cases o with
  | src => obtain ⟨_, sa, ca, e, _⟩ := h; cases e
  | bor i => have e := h.2; simp at e
  | d x => rfl
  | pt xs => rfl
  | lst xs => rfl
  | mat rows => rfl
  | dct t kvs => rfl
  | fdct t kvs => rfl
theorem ResAt.old {K : PySem.W.Frag} {F H : Hp} {x : PyData} {v : V} (s : Same F H) (h : Den K F v x) : ResAt K F H (.d x) v F H [] := ⟨Grow.refl s, ⟨rfl, h⟩, List.nodup_nil, fun _ z => nomatch z⟩
/-- a new object at p, that stays with whom asked for it -/
theorem Grow.new {F H : Hp} {p : Addr} {u : HO} (s : Same F H) (hp : H p = none) : Grow F H F (upd H p u) :=
  ⟨Same.refl _, fun b o e => by rw [upd_ne (ne_of_none e hp)]; exact e, fun b o e => by rw [upd_ne (ne_of_none (s b o e) hp)]; exact s b o e, fun _ h => .inl h⟩
/-- a new object at p, that is plain data -/
theorem Grow.newF {F H : Hp} {p : Addr} {u : HO} (s : Same F H) (hp : H p = none) : Grow F H (upd F p u) (upd H p u) := by
  have hf := s.free hp
  refine ⟨fun b o e => by rw [upd_ne (ne_of_none e hf)]; exact e, fun b o e => by rw [upd_ne (ne_of_none e hp)]; exact e, fun b o e => ?_, fun b h => ?_⟩
  · by_cases q : b = p
    · subst q; rw [upd_same] at e; rw [upd_same]; exact e
    · rw [upd_ne q] at e; rw [upd_ne q]; exact s b o e
  · by_cases q : b = p
    · subst q; exact .inr (.inl hp)
    · rw [upd_ne q] at h; exact .inl h
theorem ResAt.lst {K : PySem.W.Frag} {F H : Hp} {xs : List PyData} {vs : List V} {p : Addr} (s : Same F H) (hp : H p = none) (h : DenAll K F vs xs) : ResAt K F H (.lst xs) (.ref p) F (upd H p (.lst vs)) [p] :=
  ⟨Grow.new s hp, ⟨p, vs, rfl, rfl, upd_same, h⟩, by simp, fun b hb => by
    have e : b = p := by simpa using hb
    subst e
    exact ⟨hp, s.free hp, .inl ⟨vs, upd_same⟩⟩⟩
theorem ResAt.tup {K : PySem.W.Frag} {F H : Hp} {xs : List PyData} {vs : List V} {p : Addr} (s : Same F H) (hp : H p = none) (h : DenAll K F vs xs) : ResAt K F H (.d (.tuple xs)) (.ref p) (upd F p (.tup vs)) (upd H p (.tup vs)) [] :=
  ⟨Grow.newF s hp, ⟨rfl, .tup upd_same (h.mono (Grow.newF (u := .tup vs) s hp).fr)⟩, List.nodup_nil, fun _ z => nomatch z⟩
theorem ResAt.val {K : PySem.W.Frag} {F H : Hp} {x : PyData} {v : V} (s : Same F H) (h : ∀ F, Den K F v x) : ResAt K F H (.d x) v F H [] := ResAt.old s (h F)

/-- the end of an operation: the state stands, the result stands -/
theorem Post.res {K : PySem.W.Frag} {F H F2 H2 : Hp} {S : List Addr} {σ : L2.St} {A A2 : Nat → List Addr} {st2 : St} {W : Addr → Prop} (st : Step F H (Ow S A) F2 H2 W) (hW : ∀ b, Ow S A2 b → W b) (R : Rel K F2 H2 S σ st2 A2)
    {r : O} {v : V} {F' H' : Hp} {B : List Addr} (q : ResAt K F2 H2 r v F' H' B) : Post K F H S σ A r st2 v F' H' A2 B where
  step := by
    refine (st.weak hW).trans ?_
    exact ⟨q.grow.fr, fun b o h _ => q.grow.hp b o h, fun b h => let ⟨_, e⟩ := some_of_ne h; ne_none_of (q.grow.hp _ _ e), fun b h => h.elim .inl fun z => .inr (q.new b z).1, fun b h => (q.grow.nw b h).imp id .inr⟩
  rel := R.grow q.grow
  own := q.own.any q.own.freeO
  nod := q.nod
  new := fun b hb => ⟨(q.new b hb).2.1, fun z => by
    have hn := (q.new b hb).1
    rcases z with z | ⟨i, z⟩
    · have r := R.src
      cases hs : st2.src with
      | none => rw [hs] at r; have r : S = [] := r; rw [r] at z; cases z
      | some s =>
        rw [hs] at r
        obtain ⟨sa, ca, e, _, _, h1, h2⟩ := r
        rw [e] at z
        rcases List.mem_cons.mp z with z | z
        · rw [z, h1] at hn; cases hn
        · have z : b = ca := by simpa using z
          rw [z, h2] at hn; cases hn
    · exact (R.out i b z).2.2.ne hn, (q.new b hb).2.2⟩

/-! ### two expressions in a row -/
theorem OwnAt.past {K : PySem.W.Frag} {F H F' H' : Hp} {S : List Addr} {σ : L2.St} {W W' : Addr → Prop} {o : O} {v : V} {B : List Addr} (st : Step F H W F' H' W') (h : OwnAt K F H S σ o v B) (hB : ∀ b ∈ B, ¬ W b) : OwnAt K F' H' S σ o v B :=
  h.keep st.fr fun b hb u e => st.keep b u e (hB b hb)
theorem side_new {F H F' H' : Hp} {W W' : Addr → Prop} {B : List Addr} (st : Step F H W F' H' W') (h : ∀ b ∈ B, F b = none ∧ ¬ W b ∧ Mu H b) : ∀ b ∈ B, F' b = none ∧ ¬ W' b ∧ Mu H' b := fun b hb => by
  obtain ⟨h1, h2, h3⟩ := h b hb
  refine ⟨?_, fun z => ?_, h3.keep fun o e => st.keep b o e h2⟩
  · cases q : F' b with
    | none => rfl
    | some u =>
      rcases st.frz b (ne_none_of q) with z | z | z
      · exact absurd h1 z
      · exact absurd z h2
      · exact (h3.noFre z).elim
  · rcases st.own b z with z | z
    · exact h2 z
    · exact h3.ne z
/-- what stands after two -/
structure Post2 (K : PySem.W.Frag) (F H : Hp) (S : List Addr) (σ : L2.St) (A : Nat → List Addr) (x y : O) (st' : St) (v w : V) (F' H' : Hp) (A' : Nat → List Addr) (B C : List Addr) : Prop where
  step : Step F H (Ow S A) F' H' (fun b => Ow S A' b ∨ b ∈ B ∨ b ∈ C)
  rel : Rel K F' H' S σ st' A'
  ownx : OwnAt K F' H' S σ x v B
  owny : OwnAt K F' H' S σ y w C
  newB : ∀ b ∈ B, F' b = none ∧ ¬ Ow S A' b ∧ Mu H' b
  newC : ∀ b ∈ C, F' b = none ∧ ¬ Ow S A' b ∧ Mu H' b
  nodB : B.Nodup
  nodC : C.Nodup
  dis : ∀ b ∈ B, b ∉ C
theorem Post.two {K : PySem.W.Frag} {F H F1 H1 F2 H2 : Hp} {S : List Addr} {σ : L2.St} {A A1 A2 : Nat → List Addr} {x y : O} {s1 s2 : St} {v w : V} {B C : List Addr} (p : Post K F H S σ A x s1 v F1 H1 A1 B) (q : Post K F1 H1 S σ A1 y s2 w F2 H2 A2 C) :
    Post2 K F H S σ A x y s2 v w F2 H2 A2 B C := by
  have sn := side_new q.step fun b hb => p.new b hb
  refine ⟨?_, q.rel, p.own.past q.step fun b hb => (p.new b hb).2.1, q.own, fun b hb => ⟨(sn b hb).1, fun z => (sn b hb).2.1 (.inl z), (sn b hb).2.2⟩, q.new, p.nod, q.nod, fun b hb z => (sn b hb).2.1 (.inr z)⟩
  refine (p.step.trans (q.step.side (fun b => b ∈ B))).weak fun b h => ?_
  rcases h with h | h | h
  · exact .inl (.inl h)
  · exact .inr h
  · exact .inl (.inr h)
theorem two_read {Φ : Fs} {K : PySem.W.Frag} {e1 e2 : E} {σ : L2.St} {H F : Hp} {S : List Addr} {st s1 s2 : St} {A : Nat → List Addr} {x y : O} (R : Rel K F H S σ st A) (h1 : evE Φ e1 st = some (x, s1)) (h2 : evE Φ e2 s1 = some (y, s2)) {Q : V → V → Hp → Prop}
    (k : ∀ v w F' H' A' B C, Post2 K F H S σ A x y s2 v w F' H' A' B C → Q v w H') : tE Φ K e1 σ H fun v H1 => tE Φ K e2 σ H1 fun w H2 => Q v w H2 :=
  ⟨F, S, st, A, x, s1, R, h1, fun v F1 H1 A1 B p => ⟨F1, S, s1, A1, y, s2, p.rel, h2, fun w F2 H2 A2 C q => k v w F2 H2 A2 B C (p.two q)⟩⟩
theorem one_read {Φ : Fs} {K : PySem.W.Frag} {e1 : E} {σ : L2.St} {H F : Hp} {S : List Addr} {st s1 : St} {A : Nat → List Addr} {x : O} (R : Rel K F H S σ st A) (h1 : evE Φ e1 st = some (x, s1)) {Q : VK}
    (k : ∀ v F' H' A' B, Post K F H S σ A x s1 v F' H' A' B → Q v H') : tE Φ K e1 σ H Q := ⟨F, S, st, A, x, s1, R, h1, k⟩
theorem bindE {α β : Type} {m : Option α} {f : α → Option β} {b : β} (h : m.bind f = some b) : ∃ a, m = some a ∧ f a = some b := Option.bind_eq_some_iff.mp h
theorem mapE {α β : Type} {m : Option α} {f : α → β} {b : β} (h : m.map f = some b) : ∃ a, m = some a ∧ f a = b := Option.map_eq_some_iff.mp h
end Vm


set_option Elab.async false
set_option linter.all false
set_option maxRecDepth 100000
/-! Vm, part 4: the operations by values. -/
namespace Vm
open PySem PySem.Spec PyProof.Rows L2

/-! ### data read off the machine's heap -/
section
variable {X : Cx} {pins : List (Addr × Obj)} {σ : L2.St} {H F : Hp} {s : Shared}
mutual
theorem Den.reads (I : Inv X pins σ H s) : ∀ (d : PyData) (v : V) (u : Value), Den X.K H v d → RelV v u → ∃ as, Reads s.heap u d as ∧ (nolst d = true → sysModules ∉ as)
  | .none, _, _, h, r => by cases h; cases r; exact ⟨_, .none, fun _ z => nomatch z⟩
  | .bool b, _, _, h, r => by cases h; cases r; exact ⟨_, .bool b, fun _ z => nomatch z⟩
  | .int i, _, _, h, r => by cases h; obtain ⟨t, rfl⟩ := r; exact ⟨_, .int i t, fun _ z => nomatch z⟩
  | .str x, _, _, h, r => by cases h; obtain ⟨t, rfl⟩ := r; exact ⟨_, .str x t, fun _ z => nomatch z⟩
  | .list ds, _, _, h, r => by
    cases h with
    | lst hs ha =>
      cases r
      obtain ⟨its, rv, ⟨o, n, ho, hc, _, hd⟩, _⟩ := I.list (SqL.of hs)
      obtain ⟨as, hr, _⟩ := Den.readsAll I ds _ its ha rv
      exact ⟨_, .list ho hc hd hr, fun z => nomatch z⟩
  | .tuple ds, _, _, h, r => by
    cases h with
    | tup hs ha =>
      cases r
      obtain ⟨its, rv, ⟨o, ho, hc, n, hd⟩, _⟩ := I.tuple (SqT.of hs)
      obtain ⟨as, hr, q⟩ := Den.readsAll I ds _ its ha rv
      exact ⟨_, .tuple ho hc hd hr, fun z => q (by simpa [nolst] using z)⟩
    | ftup hs _ _ ha =>
      cases r
      obtain ⟨its, rv, ⟨o, ho, hc, n, hd⟩, _⟩ := I.tuple (TpAt.sq (K := X.K) (.inr ⟨_, hs, ‹_›⟩))
      obtain ⟨as, hr, q⟩ := Den.readsAll I ds _ its ha rv
      exact ⟨_, .tuple ho hc hd hr, fun z => q (by simpa [nolst] using z)⟩
  | .dict _, _, _, h, r => by
    cases h with
    | dk0 hs =>
      cases r
      obtain ⟨_, z, vs, rel, o, es, ep, e1, e2, e3, e4, e5, e6⟩ := I.hok _ _ hs
      cases rel
      have hes : es.toList = [] := by
        cases hl : es.toList with
        | nil => rfl
        | cons a b => rw [hl] at e5; cases e5
      refine ⟨_, .dict (as := []) (bs := []) e1 e2.1 e3 (by rw [hes]; exact .nil) (by rw [hes]; exact .nil), fun _ q => ?_⟩
      rcases List.mem_cons.mp q with q | q
      · rw [← q] at z
        simp at z
      · cases q
theorem Den.readsAll (I : Inv X pins σ H s) : ∀ (ds : List PyData) (vs : List V) (us : List Value), DenAll X.K H vs ds → Vals vs us → ∃ as, ReadsAll s.heap us ds as ∧ (nolsts ds = true → sysModules ∉ as)
  | [], _, _, h, r => by cases h; cases r; exact ⟨_, .nil, fun _ z => nomatch z⟩
  | d :: ds, _, _, h, r => by
    cases h with
    | cons h1 h2 =>
      cases r with
      | cons r1 r2 =>
        obtain ⟨as, q1, z1⟩ := Den.reads I d _ _ h1 r1
        obtain ⟨bs, q2, z2⟩ := Den.readsAll I ds _ _ h2 r2
        refine ⟨_, .cons q1 q2, fun z => ?_⟩
        have z : nolst d = true ∧ nolsts ds = true := by simpa [nolsts] using z
        rw [List.mem_append]
        exact fun q => q.elim (z1 z.1) (z2 z.2)
end

/-! ### views, taken apart -/
variable {K : PySem.W.Frag} {v : V}
theorem VwAt.den (e : Same F H) : ∀ {u : Vw} {x : PyData}, VwAt K F H v u → u.dat = some x → Den K H v x
  | .d y, x, h, q => by
    cases q
    rcases h with h | ⟨a, vs, xs, rfl, rfl, h1, h2⟩
    · exact h.mono e
    · exact .lst h1 (h2.mono e)
  | .h y, x, h, q => by cases q; exact h
  | .dct _ _, _, _, q => nomatch q
theorem VwAt.int {i : Int} (h : VwAt K F H v (.d (.int i))) : v = .int i := by
  rcases h with h | ⟨_, _, _, _, q, _⟩
  · cases h; rfl
  · cases q
theorem VwAt.bl {i : Bool} (h : VwAt K F H v (.d (.bool i))) : v = .bl i := by
  rcases h with h | ⟨_, _, _, _, q, _⟩
  · cases h; rfl
  · cases q
theorem VwAt.non (h : VwAt K F H v (.d .none)) : v = .non := by
  rcases h with h | ⟨_, _, _, _, q, _⟩
  · cases h; rfl
  · cases q
theorem VwAt.list (e : Same F H) {xs : List PyData} (h : VwAt K F H v (.d (.list xs))) : ∃ a vs, v = .ref a ∧ H a = some (.lst vs) ∧ DenAll K F vs xs := by
  rcases h with h | ⟨a, vs, ys, rfl, q, h1, h2⟩
  · cases h with
    | lst h1 h2 => exact ⟨_, _, rfl, e _ _ h1, h2⟩
  · cases q; exact ⟨_, _, rfl, h1, h2⟩
theorem VwAt.tup (e : Same F H) {xs : List PyData} (h : VwAt K F H v (.d (.tuple xs))) : ∃ a vs, v = .ref a ∧ Den K F (.ref a) (.tuple xs) ∧ TpAt H a vs ∧ DenAll K F vs xs := by
  rcases h with h | ⟨a, vs, ys, rfl, q, h1, h2⟩
  · cases h with
    | tup h1 h2 => exact ⟨_, _, rfl, .tup h1 h2, .inl (e _ _ h1), h2⟩
    | ftup h1 d n h2 => exact ⟨_, _, rfl, .ftup h1 d n h2, .inr ⟨_, e _ _ h1, d⟩, h2⟩
  · cases q
theorem VwAt.dtup (e : Same F H) {xs : List PyData} (h : VwAt K F H v (.d (.tuple xs))) : Den K F v (.tuple xs) := by
  rcases h with h | ⟨a, vs, ys, rfl, q, h1, h2⟩
  · exact h
  · cases q
end

/-! ### operators of two values -/
def rOp2 (K : PySem.W.Frag) (f : Vw → Vw → Option O) : R2 := fun x y H Q => ∃ F u w r, Same F H ∧ VwAt K F H x u ∧ VwAt K F H y w ∧ f u w = some r ∧ ∀ v F' H' B, ResAt K F H r v F' H' B → Q v H'
def rOpB (K : PySem.W.Frag) (f : Vw → Vw → Option Bool) : R2 := fun x y H Q => ∃ F u w b, Same F H ∧ VwAt K F H x u ∧ VwAt K F H y w ∧ f u w = some b ∧ Q (.bl b) H
section
variable {X : Cx}
theorem add_ok : OpR X (binaryOp .Add) (rOp2 X.K (binSem .add)) := by
  refine OpR.imp (op_add.or (op_cat.or op_catA)) fun x y H Q h => ?_
  obtain ⟨F, u, w, r, e, hu, hw, hr, k⟩ := h
  unfold binSem at hr
  split at hr
  all_goals try contradiction
  · cases hr
    obtain rfl := hu.int
    obtain rfl := hw.int
    exact .inl ⟨_, _, rfl, rfl, k _ _ _ _ (.val e fun F => .int _)⟩
  · rename_i xs ys _ _ _
    obtain ⟨a, vs, rfl, h1, h2⟩ := hu.list e
    obtain ⟨b, ws, rfl, h3, h4⟩ := hw.list e
    split at hr
    · cases hr
      rename_i hz
      exact .inr (.inl ⟨a, b, vs, ws, rfl, rfl, h1, h3, by rw [h2.length, h4.length]; exact hz, fun p hp => k _ _ _ _ (.lst e hp (h2.append h4))⟩)
    · cases hr
  · rename_i xs ys _ _ _
    obtain ⟨a, vs, rfl, f1, h1, h2⟩ := hu.tup e
    obtain ⟨b, ws, rfl, f3, h3, h4⟩ := hw.tup e
    split at hr
    · cases hr
      rename_i hz
      refine .inr (.inr ⟨a, b, vs, ws, rfl, rfl, h1.sq, h3.sq, by rw [h2.length, h4.length]; exact hz, fun z => ?_, fun _ z => ?_, fun _ _ p hp => k _ _ _ _ (.tup e hp (h2.append h4))⟩)
      · subst z
        cases h2
        exact k _ _ _ _ (.old e f3)
      · subst z
        cases h4
        rw [List.append_nil] at k
        exact k _ _ _ _ (.old e f1)
    · cases hr
theorem sub_ok : OpR X (binaryOp .Sub) (rOp2 X.K (binSem .sub)) := by
  refine OpR.imp op_sub fun x y H Q h => ?_
  obtain ⟨F, u, w, r, e, hu, hw, hr, k⟩ := h
  unfold binSem at hr
  split at hr
  all_goals try contradiction
  cases hr
  obtain rfl := hu.int
  obtain rfl := hw.int
  exact ⟨_, _, rfl, rfl, k _ _ _ _ (.val e fun F => .int _)⟩
theorem mul_ok : OpR X (binaryOp .Mult) (rOp2 X.K (binSem .mul)) := by
  refine OpR.imp ((op_mulX.or op_mul).or op_rep) fun x y H Q h => ?_
  obtain ⟨F, u, w, r, e, hu, hw, hr, k⟩ := h
  unfold binSem at hr
  split at hr
  all_goals try contradiction
  · obtain rfl := hu.int
    obtain rfl := hw.int
    split at hr
    · cases hr
      rename_i hz
      rcases hz with hz | hz | hz
      · exact .inl (.inr ⟨_, _, rfl, rfl, .inl (by omega), k _ _ _ _ (.val e fun F => .int _)⟩)
      · exact .inl (.inr ⟨_, _, rfl, rfl, .inr (by omega), k _ _ _ _ (.val e fun F => .int _)⟩)
      · exact .inl (.inl ⟨_, _, rfl, rfl, mulx_ok (a := _ + 1) (b := _ + 1) Nat.lt_log2_self Nat.lt_log2_self (by omega), k _ _ _ _ (.val e fun F => .int _)⟩)
    · cases hr
  · obtain ⟨a, vs, rfl, h1, h2⟩ := hu.list e
    obtain rfl := hw.int
    split at hr
    · cases hr
      rename_i hz
      obtain ⟨z1, z2, z3⟩ := hz
      refine .inr ⟨a, _, vs, rfl, rfl, h1, by omega, z2, by rw [h2.length]; exact z3, fun p hp => k _ _ _ _ (.lst e hp (h2.rep _))⟩
    · cases hr
theorem fdiv_ok : OpR X (binaryOp .FloorDiv) (rOp2 X.K (binSem .fdiv)) := by
  refine OpR.imp op_fdivW fun x y H Q h => ?_
  obtain ⟨F, u, w, r, e, hu, hw, hr, k⟩ := h
  unfold binSem at hr
  split at hr
  all_goals try contradiction
  obtain rfl := hu.int
  obtain rfl := hw.int
  split at hr
  · cases hr
    rename_i hz
    exact ⟨_, _, rfl, rfl, hz, k _ _ _ _ (.val e fun F => .int _)⟩
  · cases hr
theorem fmod_ok : OpR X (binaryOp .Mod) (rOp2 X.K (binSem .fmod)) := by
  refine OpR.imp op_mod fun x y H Q h => ?_
  obtain ⟨F, u, w, r, e, hu, hw, hr, k⟩ := h
  unfold binSem at hr
  split at hr
  all_goals try contradiction
  obtain rfl := hu.int
  obtain rfl := hw.int
  split at hr
  · cases hr
    rename_i hz
    exact ⟨_, _, rfl, rfl, hz, k _ _ _ _ (.val e fun F => .int _)⟩
  · cases hr
theorem pow_ok : OpR X (binaryOp .Pow) (rOp2 X.K (binSem .pow)) := by
  refine OpR.imp op_pow fun x y H Q h => ?_
  obtain ⟨F, u, w, r, e, hu, hw, hr, k⟩ := h
  unfold binSem at hr
  split at hr
  all_goals try contradiction
  obtain rfl := hu.int
  obtain rfl := hw.int
  split at hr
  · cases hr
    rename_i hz
    exact ⟨_, _, rfl, rfl, hz, k _ _ _ _ (.val e fun F => .int _)⟩
  · cases hr
def Bop.op : Bop → Operator
  | .add => .Add
  | .sub => .Sub
  | .mul => .Mult
  | .fdiv => .FloorDiv
  | .fmod => .Mod
  | .pow => .Pow
theorem bop_ok : ∀ op : Bop, OpR X (binaryOp op.op) (rOp2 X.K (binSem op))
  | .add => add_ok
  | .sub => sub_ok
  | .mul => mul_ok
  | .fdiv => fdiv_ok
  | .fmod => fmod_ok
  | .pow => pow_ok

/-! ### comparisons -/
theorem depth64 {A : Around} {a b : Nat} (h : a ≤ 64) (hu : A.units + 64 < cLine) : A.units + min a b < cLine := by
  have := Nat.min_le_left a b
  omega
theorem lens_of {pins : List (Addr × Obj)} {σ : L2.St} {H F : Hp} {s : Shared} {x y : V} {v u : Value} {p q : Vw} {ds es : List PyData} (I : Inv X pins σ H s) (e : Same F H) (hp : VwAt X.K F H x p) (hq : VwAt X.K F H y q) (e1 : p.dat = some (.list ds)) (e2 : q.dat = some (.list es)) (rx : RelV x v) (ry : RelV y u) :
    ∃ a b xs ys, v = .ref a ∧ u = .ref b ∧ s.heap.IsList a xs ∧ s.heap.IsList b ys ∧ xs.size = ds.length ∧ ys.size = es.length := by
  have one : ∀ {x : V} {v : Value} {p : Vw} {ds : List PyData}, VwAt X.K F H x p → p.dat = some (.list ds) → RelV x v → ∃ a xs, v = .ref a ∧ s.heap.IsList a xs ∧ xs.size = ds.length := by
    intro x v p ds hp e1 rx
    have h := hp.den e e1
    cases h with
    | lst h1 h2 =>
      cases rx
      obtain ⟨its, rv, pl, _⟩ := I.list (SqL.of h1)
      exact ⟨_, its.toArray, rfl, pl.isList, by rw [List.size_toArray, ← rv.length, h2.length]⟩
  obtain ⟨a, xs, rfl, l1, n1⟩ := one hp e1 rx
  obtain ⟨b, ys, rfl, l2, n2⟩ := one hq e2 ry
  exact ⟨a, b, xs, ys, rfl, rfl, l1, l2, n1, n2⟩
theorem eqv_ok (hu : X.A.units + 64 < cLine) : OpR X (compareOp .Eq) (rOpB X.K (cmpSem .eq)) := by
  intro pins s σ H x y v u Q I rx ry h
  obtain ⟨F, p, q, b, e, hp, hq, hb, k⟩ := h
  obtain ⟨d1, e1, hb⟩ := bindE (show (p.dat.bind fun x => q.dat.bind fun y => eqD x y) = some b from hb)
  obtain ⟨d2, e2, hb⟩ := bindE hb
  obtain ⟨as, r1, _⟩ := Den.reads I d1 x v (hp.den e e1) rx
  obtain ⟨bs, r2, _⟩ := Den.reads I d2 y u (hq.den e e2) ry
  unfold eqD at hb
  split at hb
  · rename_i z
    cases hb
    rw [Bool.and_eq_true] at z
    exact SeqAt.compareEq_shaped r1 r2 z.1 z.2 hu ⟨.bl _, H, I, rfl, k⟩
  · split at hb
    · split at hb
      · cases hb
      · rename_i hz
        cases hb
        obtain ⟨a, b', xs', ys', rfl, rfl, l1, l2, n1, n2⟩ := lens_of I e hp hq e1 e2 rx ry
        exact PySem.SeqAt.eq_list_lengthsAt l1 l2 (by rw [bne_iff_ne, n1, n2]; exact hz) (by omega) ⟨.bl _, H, I, rfl, k⟩
    · cases hb
theorem nev_ok (hu : X.A.units + 64 < cLine) : OpR X (compareOp .NotEq) (rOpB X.K (cmpSem .ne)) := by
  intro pins s σ H x y v u Q I rx ry h
  obtain ⟨F, p, q, b, e, hp, hq, hb, k⟩ := h
  obtain ⟨d1, e1, hb⟩ := bindE (show (p.dat.bind fun x => q.dat.bind fun y => (eqD x y).map (!·)) = some b from hb)
  obtain ⟨d2, e2, hb⟩ := bindE hb
  obtain ⟨b', e3, rfl⟩ := mapE hb
  obtain ⟨as, r1, _⟩ := Den.reads I d1 x v (hp.den e e1) rx
  obtain ⟨bs, r2, _⟩ := Den.reads I d2 y u (hq.den e e2) ry
  unfold eqD at e3
  split at e3
  · rename_i z
    cases e3
    rw [Bool.and_eq_true] at z
    exact SeqAt.compareNe_shaped r1 r2 z.1 z.2 hu ⟨.bl _, H, I, rfl, k⟩
  · split at e3
    · split at e3
      · cases e3
      · rename_i hz
        cases e3
        obtain ⟨a, b', xs', ys', rfl, rfl, l1, l2, n1, n2⟩ := lens_of I e hp hq e1 e2 rx ry
        exact PySem.SeqAt.RcNeAt.lists_lengths l1 l2 (by rw [bne_iff_ne, n1, n2]; exact hz) (by omega) _ _ _ _ ⟨.bl _, H, I, rfl, k⟩
    · cases e3
theorem cmpOk_of {x y : PyData} (h : cmpOk x y = true) : x ≠ .none ∧ PySem.W.alike x y = true ∧ x.depth ≤ 64 := by
  unfold cmpOk at h
  rw [Bool.and_eq_true, Bool.and_eq_true] at h
  obtain ⟨⟨h1, h2⟩, h3⟩ := h
  refine ⟨fun z => ?_, h2, of_decide_eq_true h3⟩
  subst z
  cases h1
theorem lt_ok (hu : X.A.units + 64 < cLine) : OpR X (compareOp .Lt) (rOpB X.K (cmpSem .lt)) := by
  intro pins s σ H x y v u Q I rx ry h
  obtain ⟨F, p, q, b, e, hp, hq, hb, k⟩ := h
  unfold cmpSem at hb
  split at hb
  all_goals try contradiction
  split at hb
  · rename_i z
    cases hb
    obtain ⟨z1, z2, z3⟩ := cmpOk_of z
    obtain ⟨as, r1, _⟩ := Den.reads I _ x v (hp.den e rfl) rx
    obtain ⟨bs, r2, _⟩ := Den.reads I _ y u (hq.den e rfl) ry
    exact PySem.W.lt_data r1 r2 z2 z1 (depth64 z3 hu) ⟨.bl _, H, I, rfl, k⟩
  · cases hb
theorem le_ok (hu : X.A.units + 64 < cLine) : OpR X (compareOp .LtE) (rOpB X.K (cmpSem .le)) := by
  intro pins s σ H x y v u Q I rx ry h
  obtain ⟨F, p, q, b, e, hp, hq, hb, k⟩ := h
  unfold cmpSem at hb
  split at hb
  all_goals try contradiction
  split at hb
  · rename_i z
    cases hb
    obtain ⟨z1, z2, z3⟩ := cmpOk_of z
    obtain ⟨as, r1, _⟩ := Den.reads I _ x v (hp.den e rfl) rx
    obtain ⟨bs, r2, _⟩ := Den.reads I _ y u (hq.den e rfl) ry
    exact PySem.W.le_data r1 r2 z2 z1 (depth64 z3 hu) ⟨.bl _, H, I, rfl, k⟩
  · cases hb
theorem gt_ok (hu : X.A.units + 64 < cLine) : OpR X (compareOp .Gt) (rOpB X.K (cmpSem .gt)) := by
  intro pins s σ H x y v u Q I rx ry h
  obtain ⟨F, p, q, b, e, hp, hq, hb, k⟩ := h
  unfold cmpSem at hb
  split at hb
  all_goals try contradiction
  split at hb
  · rename_i z
    cases hb
    obtain ⟨z1, z2, z3⟩ := cmpOk_of z
    obtain ⟨as, r1, _⟩ := Den.reads I _ x v (hp.den e rfl) rx
    obtain ⟨bs, r2, _⟩ := Den.reads I _ y u (hq.den e rfl) ry
    exact PySem.W.gt_data r1 r2 z2 z1 (depth64 z3 hu) ⟨.bl _, H, I, rfl, k⟩
  · cases hb
theorem ge_ok (hu : X.A.units + 64 < cLine) : OpR X (compareOp .GtE) (rOpB X.K (cmpSem .ge)) := by
  intro pins s σ H x y v u Q I rx ry h
  obtain ⟨F, p, q, b, e, hp, hq, hb, k⟩ := h
  unfold cmpSem at hb
  split at hb
  all_goals try contradiction
  split at hb
  · rename_i z
    cases hb
    obtain ⟨z1, z2, z3⟩ := cmpOk_of z
    obtain ⟨as, r1, _⟩ := Den.reads I _ x v (hp.den e rfl) rx
    obtain ⟨bs, r2, _⟩ := Den.reads I _ y u (hq.den e rfl) ry
    exact PySem.W.ge_data r1 r2 z2 z1 (depth64 z3 hu) ⟨.bl _, H, I, rfl, k⟩
  · cases hb
end
end Vm


set_option Elab.async false
set_option linter.all false
set_option maxRecDepth 100000
/-! Vm, part 5: membership, truth, subscripts, slices, dicts, by values. -/
namespace Vm
open PySem PySem.Spec PyProof.Rows L2

/-! ### keys -/
section
variable {K : PySem.W.Frag} {F H : Hp}
theorem keys_V : ∀ {xs : List PyData} {ks : List Key} {vs : List V}, toKeys xs = some ks → DenAll K F vs xs → vs = ks.map kV
  | [], ks, vs, e, h => by cases e; cases h; rfl
  | x :: xs, ks, vs, e, h => by
    cases h with
    | cons h1 h2 =>
      unfold toKeys at e
      cases e1 : toKey x with
      | none => rw [e1] at e; cases e
      | some k =>
        cases e2 : toKeys xs with
        | none => rw [e1, e2] at e; cases e
        | some ks' =>
          rw [e1, e2] at e
          cases e
          rw [keys_V e2 h2, List.map_cons]
          congr 1
          cases x <;> first | (cases e1; cases h1; rfl) | cases e1
theorem toDK_t {xs : List PyData} {k : DK} (e : toDK (.tuple xs) = some k) : ∃ ks, toKeys xs = some ks ∧ k = .t ks := by
  have e : (toKeys xs).map DK.t = some k := e
  obtain ⟨ks, e1, e2⟩ := mapE e
  exact ⟨ks, e1, e2.symm⟩
theorem noKey_no {xs : List PyData} {k : DK} (e : toDK (.tuple xs) = some k) (n : noKey xs = true) : False := by
  obtain ⟨ks, h2, _⟩ := toDK_t e
  unfold noKey at n
  rw [h2] at n
  cases n
theorem key_k {x : PyData} {q : Key} {v : V} (e : toDK x = some (.k q)) (h : Den K F v x) : v = kV q := by
  cases h with
  | int i => cases e; rfl
  | str s => cases e; rfl
  | tup h1 h2 =>
    obtain ⟨ks, _, e⟩ := toDK_t e
    cases e
  | ftup h1 d n h2 => exact (noKey_no e n).elim
  | non => cases e
  | bl b => cases e
  | lst h1 h2 => cases e
  | dk0 h => cases e
theorem key_t {x : PyData} {ks : List Key} {v : V} (e : toDK x = some (.t ks)) (h : Den K F v x) : ∃ b, v = .ref b ∧ F b = some (.tup (ks.map kV)) := by
  cases h with
  | int i => cases e
  | str s => cases e
  | tup h1 h2 =>
    obtain ⟨ks', e1, e⟩ := toDK_t e
    cases e
    exact ⟨_, rfl, by rw [← keys_V e1 h2]; exact h1⟩
  | ftup h1 d n h2 => exact (noKey_no e n).elim
  | non => cases e
  | bl b => cases e
  | lst h1 h2 => cases e
  | dk0 h => cases e
/-- what is found -/
def Fnd (K : PySem.W.Frag) (F : Hp) : Option V → Option PyData → Prop
  | none, none => True
  | some v, some d => Den K F v d
  | _, _ => False
theorem Paired.find {κ : Type} [DecidableEq κ] (f : κ → DK) (inj : ∀ a b, f a = f b → a = b) {l : List (κ × V)} {m : KVs} (r : Paired (fun p q => q.1 = f p.1 ∧ Den K F p.2 q.2) l m) (q : κ) : Fnd K F (valV l q) (kvGet m (f q)) := by
  induction r with
  | nil => trivial
  | @cons p p' ps qs h t ih =>
    obtain ⟨e1, e2⟩ := h
    unfold valV kvGet at ih ⊢
    rw [List.find?_cons, List.find?_cons]
    by_cases z : p.1 = q
    · rw [decide_eq_true z, decide_eq_true (by rw [e1, z])]
      exact e2
    · rw [decide_eq_false z, decide_eq_false (fun w => z (inj _ _ (e1.symm.trans w)))]
      exact ih
theorem Paired.anyK {κ : Type} [DecidableEq κ] (f : κ → DK) (inj : ∀ a b, f a = f b → a = b) {l : List (κ × V)} {m : KVs} (r : Paired (fun p q => q.1 = f p.1 ∧ Den K F p.2 q.2) l m) (q : κ) : (l.any fun p => decide (p.1 = q)) = m.any fun p => decide (p.1 = f q) := by
  induction r with
  | nil => rfl
  | @cons p p' ps qs h t ih =>
    rw [List.any_cons, List.any_cons, ih]
    congr 1
    by_cases z : p.1 = q
    · rw [decide_eq_true z, decide_eq_true (by rw [h.1, z])]
    · rw [decide_eq_false z, decide_eq_false (fun w => z (inj _ _ (h.1.symm.trans w)))]
theorem Paired.snoc {α β : Type} {R : α → β → Prop} {a : α} {b : β} (h : R a b) : ∀ {l : List α} {m : List β}, Paired R l m → Paired R (l ++ [a]) (m ++ [b])
  | _, _, .nil => .cons h .nil
  | _, _, .cons r t => .cons r (Paired.snoc h t)
theorem Paired.putK {κ : Type} [DecidableEq κ] (f : κ → DK) (inj : ∀ a b, f a = f b → a = b) {l : List (κ × V)} {m : KVs} (r : Paired (fun p q => q.1 = f p.1 ∧ Den K F p.2 q.2) l m) (q : κ) {v : V} {d : PyData} (hd : Den K F v d) :
    Paired (fun p q => q.1 = f p.1 ∧ Den K F p.2 q.2) (putK l q v) (kvPut m (f q) d) := by
  unfold L2.putK kvPut
  rw [Paired.anyK f inj r q]
  split
  · have go : ∀ {l : List (κ × V)} {m : KVs}, Paired (fun p q => q.1 = f p.1 ∧ Den K F p.2 q.2) l m → Paired (fun p q => q.1 = f p.1 ∧ Den K F p.2 q.2) (l.map fun kv => if kv.1 = q then (kv.1, v) else kv) (m.map fun p => if p.1 = f q then (p.1, d) else p) := by
      intro l m r
      induction r with
      | nil => exact .nil
      | @cons p p' ps qs h t ih =>
        rw [List.map_cons, List.map_cons]
        refine .cons ?_ ih
        by_cases z : p.1 = q
        · rw [if_pos z, if_pos (by rw [h.1, z])]
          exact ⟨h.1, hd⟩
        · rw [if_neg z, if_neg (fun w => z (inj _ _ (h.1.symm.trans w)))]
          exact h
    exact go r
  · exact Paired.snoc ⟨rfl, hd⟩ r
theorem Paired.len {α β : Type} {R : α → β → Prop} : ∀ {l : List α} {m : List β}, Paired R l m → l.length = m.length
  | _, _, .nil => rfl
  | _, _, .cons _ t => congrArg Nat.succ (Paired.len t)
theorem dk_inj : ∀ a b : Key, DK.k a = DK.k b → a = b := fun _ _ h => DK.k.inj h
theorem dt_inj : ∀ a b : List Key, DK.t a = DK.t b → a = b := fun _ _ h => DK.t.inj h
theorem VwAt.key {v : V} {x : PyData} {k : DK} (e : toDK x = some k) (h : VwAt K F H v (.d x)) : Den K F v x := by
  rcases h with h | ⟨a, vs, xs, rfl, rfl, h1, h2⟩
  · exact h
  · cases e
theorem dget_of {a : Addr} {t : Bool} {kvs : KVs} {x : PyData} {k : DK} {v : V} (e : Same F H) (d : DctAt K F H a t kvs) (hx : toDK x = some k) (ht : k.tk = t) (hv : Den K F v x) : ∃ o, DGet H a v o ∧ Fnd K F o (kvGet kvs k) := by
  cases k with
  | k q =>
    subst ht
    obtain ⟨hk, h1, h2⟩ := d
    obtain rfl := key_k hx hv
    exact ⟨_, .k h1, Paired.find DK.k dk_inj h2 q⟩
  | t ks =>
    subst ht
    obtain ⟨hk, h1, h2⟩ := d
    obtain ⟨b, rfl, hb⟩ := key_t hx hv
    exact ⟨_, .t h1 (e _ _ hb), Paired.find DK.t dt_inj h2 ks⟩
theorem DctAt.isD {a : Addr} {t : Bool} {kvs : KVs} (d : DctAt K F H a t kvs) : IsD H a := by
  cases t with
  | false => obtain ⟨hk, h1, _⟩ := d; exact .inl ⟨hk, .inl h1⟩
  | true => obtain ⟨hk, h1, _⟩ := d; exact .inr ⟨hk, .inl h1⟩
theorem Fnd.isSome {o : Option V} {p : Option PyData} (h : Fnd K F o p) : o.isSome = p.isSome := by
  cases o <;> cases p <;> first | rfl | exact h.elim
/-- a key put into a dict -/
theorem dput_of {a : Addr} {t : Bool} {kvs : KVs} {x : PyData} {k : DK} {v w : V} {y : PyData} (e : Same F H) (d : DctAt K F H a t kvs) (hx : toDK x = some k) (ht : k.tk = t) (hv : Den K F v x) (hw : Den K F w y) (hl : kvs.length < sizeLine) :
    ∃ u, DPut H a v w (upd H a u) ∧ DctAt K F (upd H a u) a t (kvPut kvs k y) := by
  cases k with
  | k q =>
    subst ht
    obtain ⟨hk, h1, h2⟩ := d
    obtain rfl := key_k hx hv
    exact ⟨_, .k h1 (by rw [Paired.len h2]; exact hl), _, upd_same, Paired.putK DK.k dk_inj h2 q hw⟩
  | t ks =>
    subst ht
    obtain ⟨hk, h1, h2⟩ := d
    obtain ⟨b, rfl, hb⟩ := key_t hx hv
    exact ⟨_, .t h1 (e _ _ hb) (by rw [Paired.len h2]; exact hl), _, upd_same, Paired.putK DK.t dt_inj h2 ks hw⟩
end

section
variable {X : Cx}
/-! ### is, in -/
theorem is_ok : OpR X (compareOp .Is) (rOpB X.K (cmpSem .is)) := by
  refine OpR.imp (op_isN.or op_isBl) fun x y H Q h => ?_
  obtain ⟨F, u, w, b, e, hu, hw, hb, k⟩ := h
  have hb : isSem u w = some b := hb
  unfold isSem at hb
  split at hb
  all_goals try contradiction
  · obtain rfl := hw.non
    refine .inl ⟨rfl, ?_⟩
    split at hb
    all_goals try contradiction
    all_goals cases hb
    · obtain rfl := hu.non; exact k
    · obtain rfl := hu.bl; exact k
    · obtain rfl := hu.int; exact k
    · obtain ⟨a, vs, rfl, _⟩ := hu.tup e; exact k
    · obtain ⟨a, vs, rfl, _⟩ := hu.list e; exact k
  · obtain rfl := hu.bl
    obtain rfl := hw.bl
    cases hb
    exact .inr ⟨_, _, rfl, rfl, by rw [← Bool.beq_eq_decide_eq]; exact k⟩
theorem isnot_ok : OpR X (compareOp .IsNot) (rOpB X.K (cmpSem .isnot)) := by
  refine OpR.imp (op_notN.or op_notBl) fun x y H Q h => ?_
  obtain ⟨F, u, w, b, e, hu, hw, hb, k⟩ := h
  obtain ⟨b', hb', rfl⟩ := mapE (show (isSem u w).map (!·) = some b from hb)
  clear hb
  have hb := hb'
  clear hb'
  unfold isSem at hb
  split at hb
  all_goals try contradiction
  · obtain rfl := hw.non
    refine .inl ⟨rfl, ?_⟩
    split at hb
    all_goals try contradiction
    all_goals cases hb
    · obtain rfl := hu.non; exact k
    · obtain rfl := hu.bl; exact k
    · obtain rfl := hu.int; exact k
    · obtain ⟨a, vs, rfl, _⟩ := hu.tup e; exact k
    · obtain ⟨a, vs, rfl, _⟩ := hu.list e; exact k
  · obtain rfl := hu.bl
    obtain rfl := hw.bl
    cases hb
    exact .inr ⟨_, _, rfl, rfl, by rw [← Bool.beq_eq_decide_eq]; exact k⟩
theorem in_ok (hu : X.A.units + 66 < cLine) : OpR X (compareOp .In) (rOpB X.K (cmpSem .isin)) := by
  intro pins s σ H x y v u Q I rx ry h
  obtain ⟨F, p, q, b, e, hp, hq, hb, k⟩ := h
  have hb : inSem p q = some b := hb
  unfold inSem at hb
  split at hb
  all_goals try contradiction
  · obtain ⟨d, e1, hb⟩ := bindE hb
    split at hb
    · rename_i z
      cases hb
      rw [Bool.and_eq_true] at z
      obtain ⟨as, r1, _⟩ := Den.reads I d x v (hp.den e e1) rx
      obtain ⟨bs, r2, _⟩ := Den.reads I _ y u (hq.den e rfl) ry
      exact SeqAt.in_list_reads r2 r1 (SeqAt.canLay_of_shaped z.2) (SeqAt.canLay_of_shaped z.1) (room_in_shaped z.1 (by omega)) ⟨.bl _, H, I, rfl, k⟩
    · cases hb
  · obtain ⟨d, e1, hb⟩ := bindE hb
    split at hb
    · rename_i z
      cases hb
      rw [Bool.and_eq_true] at z
      obtain ⟨as, r1, _⟩ := Den.reads I d x v (hp.den e e1) rx
      obtain ⟨bs, r2, _⟩ := Den.reads I _ y u (hq.den e rfl) ry
      exact SeqAt.in_list_reads r2 r1 (SeqAt.canLay_of_shaped z.2) (SeqAt.canLay_of_shaped z.1) (room_in_shaped z.1 (by omega)) ⟨.bl _, H, I, rfl, k⟩
    · cases hb
  · obtain ⟨d, e1, hb⟩ := bindE hb
    split at hb
    · rename_i z
      cases hb
      rw [Bool.and_eq_true] at z
      obtain ⟨as, r1, _⟩ := Den.reads I d x v (hp.den e e1) rx
      obtain ⟨bs, r2, _⟩ := Den.reads I _ y u (hq.den e rfl) ry
      exact SeqAt.in_tuple_reads r2 r1 (SeqAt.canLay_of_shaped z.2) (SeqAt.canLay_of_shaped z.1) (room_in_shaped z.1 (by omega)) ⟨.bl _, H, I, rfl, k⟩
    · cases hb
  · obtain ⟨q', e1, hb⟩ := bindE hb
    split at hb
    · rename_i z
      cases hb
      obtain ⟨a, rfl, hd⟩ := hq
      obtain ⟨o, g, f⟩ := dget_of e hd e1 z (hp.key e1)
      cases ry
      rw [← f.isSome] at k
      exact d_in (by omega) I g rx fun s' I' => ⟨.bl _, H, I', rfl, k⟩
    · cases hb
theorem notin_ok (hu : X.A.units + 66 < cLine) : OpR X (compareOp .NotIn) (rOpB X.K (cmpSem .notin)) := by
  intro pins s σ H x y v u Q I rx ry h
  obtain ⟨F, p, q, b, e, hp, hq, hb, k⟩ := h
  obtain ⟨b', hb', rfl⟩ := mapE (show (inSem p q).map (!·) = some b from hb)
  clear hb
  have hb := hb'
  clear hb'
  unfold inSem at hb
  split at hb
  all_goals try contradiction
  · obtain ⟨d, e1, hb⟩ := bindE hb
    split at hb
    · rename_i z
      cases hb
      rw [Bool.and_eq_true] at z
      obtain ⟨as, r1, _⟩ := Den.reads I d x v (hp.den e e1) rx
      obtain ⟨bs, r2, _⟩ := Den.reads I _ y u (hq.den e rfl) ry
      exact SeqAt.notIn_list_reads r2 r1 (SeqAt.canLay_of_shaped z.2) (SeqAt.canLay_of_shaped z.1) (room_in_shaped z.1 (by omega)) ⟨.bl _, H, I, rfl, k⟩
    · cases hb
  · obtain ⟨d, e1, hb⟩ := bindE hb
    split at hb
    · rename_i z
      cases hb
      rw [Bool.and_eq_true] at z
      obtain ⟨as, r1, _⟩ := Den.reads I d x v (hp.den e e1) rx
      obtain ⟨bs, r2, _⟩ := Den.reads I _ y u (hq.den e rfl) ry
      exact SeqAt.notIn_list_reads r2 r1 (SeqAt.canLay_of_shaped z.2) (SeqAt.canLay_of_shaped z.1) (room_in_shaped z.1 (by omega)) ⟨.bl _, H, I, rfl, k⟩
    · cases hb
  · obtain ⟨d, e1, hb⟩ := bindE hb
    split at hb
    · rename_i z
      cases hb
      rw [Bool.and_eq_true] at z
      obtain ⟨as, r1, _⟩ := Den.reads I d x v (hp.den e e1) rx
      obtain ⟨bs, r2, _⟩ := Den.reads I _ y u (hq.den e rfl) ry
      exact SeqAt.notIn_tuple_reads r2 r1 (SeqAt.canLay_of_shaped z.2) (SeqAt.canLay_of_shaped z.1) (room_in_shaped z.1 (by omega)) ⟨.bl _, H, I, rfl, k⟩
    · cases hb
  · obtain ⟨q', e1, hb⟩ := bindE hb
    split at hb
    · rename_i z
      cases hb
      obtain ⟨a, rfl, hd⟩ := hq
      obtain ⟨o, g, f⟩ := dget_of e hd e1 z (hp.key e1)
      cases ry
      rw [← f.isSome] at k
      exact d_notIn (by omega) I g rx fun s' I' => ⟨.bl _, H, I', rfl, k⟩
    · cases hb
def Cop.op : Cop → CmpOp
  | .eq => .Eq
  | .ne => .NotEq
  | .lt => .Lt
  | .le => .LtE
  | .gt => .Gt
  | .ge => .GtE
  | .isin => .In
  | .notin => .NotIn
  | .is => .Is
  | .isnot => .IsNot
theorem cop_ok (hu : X.A.units + 66 < cLine) : ∀ op : Cop, OpR X (compareOp op.op) (rOpB X.K (cmpSem op))
  | .eq => eqv_ok (by omega)
  | .ne => nev_ok (by omega)
  | .lt => lt_ok (by omega)
  | .le => le_ok (by omega)
  | .gt => gt_ok (by omega)
  | .ge => ge_ok (by omega)
  | .isin => in_ok hu
  | .notin => notin_ok hu
  | .is => is_ok
  | .isnot => isnot_ok

/-! ### truth -/
theorem isEmpty_den {K : PySem.W.Frag} {F : Hp} {vs : List V} {xs : List PyData} (h : DenAll K F vs xs) : vs.isEmpty = xs.isEmpty := by
  cases h <;> rfl
theorem tru_of {K : PySem.W.Frag} {F H : Hp} {x : V} {u : Vw} {b : Bool} (e : Same F H) (hu : VwAt K F H x u) (hb : truSem u = some b) : TruV K x H b := by
  unfold truSem at hb
  split at hb
  all_goals try contradiction
  all_goals cases hb
  · obtain rfl := hu.non; rfl
  · obtain rfl := hu.bl; rfl
  · obtain rfl := hu.int; rfl
  · obtain ⟨a, vs, rfl, h1, h2⟩ := hu.list e
    exact .inl ⟨vs, .of h1, by rw [isEmpty_den h2]⟩
  · have h : Den K H x (.list _) := hu
    cases h with
    | lst h1 h2 => exact .inl ⟨_, .of h1, by rw [isEmpty_den h2]⟩
  · obtain ⟨a, vs, rfl, _, h1, h2⟩ := hu.tup e
    exact .inr (.inl ⟨vs, h1.sq, by rw [isEmpty_den h2]⟩)

/-! ### subscripts, slices -/
theorem atI_den {K : PySem.W.Frag} {F : Hp} {vs : List V} {xs : List PyData} (h : DenAll K F vs xs) {i : Int} {d : PyData} (e : atI xs i = some d) : ∃ v, atI vs i = some v ∧ Den K F v d := by
  unfold atI at e ⊢
  rw [h.length]
  obtain ⟨j, e1, e2⟩ := bindE e
  obtain ⟨v, e3, e4⟩ := h.get e2
  exact ⟨v, by rw [e1]; exact e3, e4⟩
/-- the reading of a[i] -/
theorem idx_of {K : PySem.W.Frag} {F H : Hp} {x y : V} {u w : Vw} {r : O} {Q : VK} (e : Same F H) (hu : VwAt K F H x u) (hw : VwAt K F H y w) (hr : idxSem u w = some r) (k : ∀ v F' H' B, ResAt K F H r v F' H' B → Q v H') :
    rIx K x y H Q ∨ ∃ a v, x = .ref a ∧ DGet H a y (some v) ∧ Q v H := by
  unfold idxSem at hr
  split at hr
  all_goals try contradiction
  · obtain ⟨d, e1, rfl⟩ := mapE hr
    obtain ⟨a, vs, rfl, h1, h2⟩ := hu.list e
    obtain rfl := hw.int
    obtain ⟨v, e2, e3⟩ := atI_den h2 e1
    exact .inl (.inl ⟨a, vs, _, v, rfl, rfl, .of h1, e2, k _ _ _ _ (.old e e3)⟩)
  · obtain ⟨d, e1, rfl⟩ := mapE hr
    obtain ⟨a, vs, rfl, _, h1, h2⟩ := hu.tup e
    obtain rfl := hw.int
    obtain ⟨v, e2, e3⟩ := atI_den h2 e1
    exact .inl (.inr (.inl ⟨a, vs, _, v, rfl, rfl, h1.sq, e2, k _ _ _ _ (.old e e3)⟩))
  · obtain ⟨q, e1, hr⟩ := bindE hr
    split at hr
    · rename_i z
      obtain ⟨d, e2, rfl⟩ := mapE hr
      obtain ⟨a, rfl, hd⟩ := hu
      obtain ⟨o, g, f⟩ := dget_of e hd e1 z (hw.key e1)
      rw [e2] at f
      cases o with
      | none => exact f.elim
      | some v => exact .inr ⟨a, v, rfl, g, k _ _ _ _ (.old e f)⟩
    · cases hr
theorem cut_den {K : PySem.W.Frag} {F : Hp} {vs : List V} {xs : List PyData} (h : DenAll K F vs xs) (lo hi : Option Int) : DenAll K F (cutV vs lo hi) (cutD xs lo hi) := by
  unfold cutV cutD
  rw [h.length]
  exact (h.drop _).take _
theorem slc_ok : SlR X (fun x lo hi H Q => ∃ F u r, Same F H ∧ VwAt X.K F H x u ∧ slcSem u lo hi = some r ∧ ∀ v F' H' B, ResAt X.K F H r v F' H' B → Q v H') := by
  intro pins s σ H x v vl vu lo hi sl Q I rx hs pl pu h
  obtain ⟨F, u, r, e, hu, hr, k⟩ := h
  refine (sl_list.or sl_tupA) pins s σ H x v vl vu lo hi sl Q I rx hs pl pu ?_
  unfold slcSem at hr
  split at hr
  all_goals try contradiction
  all_goals cases hr
  · obtain ⟨a, vs, rfl, h1, h2⟩ := hu.list e
    exact .inl ⟨a, vs, rfl, .of h1, fun p hp => k _ _ _ _ (.lst e hp (cut_den h2 lo hi))⟩
  · rename_i xs
    obtain ⟨a, vs, rfl, f1, h1, h2⟩ := hu.tup e
    refine .inr ⟨a, vs, rfl, h1.sq, fun z => ?_, fun _ p hp => k _ _ _ _ (.tup e hp (cut_den h2 lo hi))⟩
    have q : cutD xs lo hi = xs := by
      unfold cutD
      rw [← h2.length, z.1, z.2, List.drop_zero, h2.length, Nat.sub_zero, List.take_length]
    rw [q] at k
    exact k _ _ _ _ (.old e f1)
end
end Vm


set_option Elab.async false
set_option linter.all false
set_option maxRecDepth 100000
/-! Vm, part 6: built-in functions by values. -/
namespace Vm
open PySem PySem.Spec PyProof.Rows L2

abbrev VwsAt (K : PySem.W.Frag) (F H : Hp) : List V → List Vw → Prop := Paired (VwAt K F H)
def rP (K : PySem.W.Frag) (p : Prim) : List V → Hp → VK → Prop := fun xs H Q => ∃ F us r, Same F H ∧ VwsAt K F H xs us ∧ primSem p us = some r ∧ ∀ v F' H' B, ResAt K F H r v F' H' B → Q v H'
theorem CallR.imp {X : Cx} {f : Value} {r r' : List V → Hp → VK → Prop} (h : CallR X f r) (i : ∀ xs H Q, r' xs H Q → r xs H Q) : CallR X f r' := fun pins s σ H xs us Q I rv q => h pins s σ H xs us Q I rv (i xs H Q q)
theorem VwsAt.one {K : PySem.W.Frag} {F H : Hp} {xs : List V} {u : Vw} (h : VwsAt K F H xs [u]) : ∃ x, xs = [x] ∧ VwAt K F H x u := by
  cases h with
  | cons h t => cases t; exact ⟨_, rfl, h⟩
theorem VwsAt.two {K : PySem.W.Frag} {F H : Hp} {xs : List V} {u w : Vw} (h : VwsAt K F H xs [u, w]) : ∃ x y, xs = [x, y] ∧ VwAt K F H x u ∧ VwAt K F H y w := by
  cases h with
  | cons h t =>
    cases t with
    | cons h' t => cases t; exact ⟨_, _, rfl, h, h'⟩

theorem bools_V {K : PySem.W.Frag} {F : Hp} : ∀ {xs : List PyData} {bs : List Bool} {vs : List V}, boolsOf xs = some bs → DenAll K F vs xs → vs = bs.map V.bl
  | [], _, _, e, h => by cases e; cases h; rfl
  | .bool b :: xs, bs, _, e, h => by
    obtain ⟨bs', e1, rfl⟩ := mapE (show (boolsOf xs).map (b :: ·) = some bs from e)
    cases h with
    | cons h1 h2 => cases h1; rw [bools_V e1 h2]; rfl
  | .none :: _, _, _, e, _ => by cases e
  | .int _ :: _, _, _, e, _ => by cases e
  | .str _ :: _, _, _, e, _ => by cases e
  | .list _ :: _, _, _, e, _ => by cases e
  | .tuple _ :: _, _, _, e, _ => by cases e
  | .dict _ :: _, _, _, e, _ => by cases e
theorem ints_V {K : PySem.W.Frag} {F : Hp} : ∀ {xs : List PyData} {bs : List Int} {vs : List V}, intsOf xs = some bs → DenAll K F vs xs → vs = bs.map V.int
  | [], _, _, e, h => by cases e; cases h; rfl
  | .int b :: xs, bs, _, e, h => by
    obtain ⟨bs', e1, rfl⟩ := mapE (show (intsOf xs).map (b :: ·) = some bs from e)
    cases h with
    | cons h1 h2 => cases h1; rw [ints_V e1 h2]; rfl
  | .none :: _, _, _, e, _ => by cases e
  | .bool _ :: _, _, _, e, _ => by cases e
  | .str _ :: _, _, _, e, _ => by cases e
  | .list _ :: _, _, _, e, _ => by cases e
  | .tuple _ :: _, _, _, e, _ => by cases e
  | .dict _ :: _, _, _, e, _ => by cases e
theorem max_is {ns : List Int} {m n : Int} (h : ns.max? = some m) (h1 : n ∈ ns) (h2 : ∀ y ∈ ns, y ≤ n) : n = m := by
  have a := List.max?_eq_some_iff.mp h
  exact Int.le_antisymm (a.2 n h1) (h2 m a.1)
theorem min_is {ns : List Int} {m n : Int} (h : ns.min? = some m) (h1 : n ∈ ns) (h2 : ∀ y ∈ ns, n ≤ y) : n = m := by
  have a := List.min?_eq_some_iff.mp h
  exact Int.le_antisymm (h2 m a.1) (a.2 n h1)

section
variable {X : Cx}
theorem len_dK : CallR X (.builtin "len") (fun xs H Q => ∃ (a : Addr) (kvs : List (Key × V)), xs = [.ref a] ∧ H a = some (.dK kvs) ∧ Q (.int (kvs.length : Nat)) H) := by
  intro pins s σ H xs us Q I r h
  obtain ⟨a, kvs, rfl, h1, q⟩ := h
  obtain ⟨u, rfl, rx⟩ := vals1 r
  cases rx
  exact d_len I (.inl h1) fun t s' I' => ⟨.int _, H, I', ⟨t, rfl⟩, q⟩
theorem len_ok : CallR X (.builtin "len") (rP X.K .len) := by
  refine CallR.imp (call_len_seq.or (len_dK.or call_len_dT)) fun xs H Q h => ?_
  obtain ⟨F, us, r, e, hu, hr, k⟩ := h
  unfold primSem at hr
  split at hr
  all_goals try contradiction
  all_goals cases hr
  · obtain ⟨x, rfl, hx⟩ := hu.one
    obtain ⟨a, vs, rfl, h1, h2⟩ := hx.list e
    refine .inl ⟨a, vs, rfl, .inl (.of h1), ?_⟩
    rw [h2.length]
    exact k _ _ _ _ (.val e fun F => .int _)
  · obtain ⟨x, rfl, hx⟩ := hu.one
    have h : Den X.K H x (.list _) := hx
    cases h with
    | lst h1 h2 =>
      refine .inl ⟨_, _, rfl, .inl (.of h1), ?_⟩
      rw [h2.length]
      exact k _ _ _ _ (.val e fun F => .int _)
  · obtain ⟨x, rfl, hx⟩ := hu.one
    obtain ⟨a, vs, rfl, _, h1, h2⟩ := hx.tup e
    refine .inl ⟨a, vs, rfl, .inr h1.sq, ?_⟩
    rw [h2.length]
    exact k _ _ _ _ (.val e fun F => .int _)
  · obtain ⟨x, rfl, hx⟩ := hu.one
    obtain ⟨a, rfl, hd⟩ := hx
    rename_i t kvs _
    cases t with
    | false =>
      obtain ⟨hk, h1, h2⟩ := hd
      refine .inr (.inl ⟨a, hk, rfl, h1, ?_⟩)
      rw [Paired.len h2]
      exact k _ _ _ _ (.val e fun F => .int _)
    | true =>
      obtain ⟨hk, h1, h2⟩ := hd
      refine .inr (.inr ⟨a, hk, rfl, h1, ?_⟩)
      rw [Paired.len h2]
      exact k _ _ _ _ (.val e fun F => .int _)
theorem abs_ok : CallR X (.builtin "abs") (rP X.K .abs) := by
  refine CallR.imp call_abs fun xs H Q h => ?_
  obtain ⟨F, us, r, e, hu, hr, k⟩ := h
  unfold primSem at hr
  split at hr
  all_goals try contradiction
  cases hr
  obtain ⟨x, rfl, hx⟩ := hu.one
  obtain rfl := hx.int
  exact ⟨_, rfl, k _ _ _ _ (.val e fun F => .int _)⟩
theorem int_ok : CallR X (.type "int") (rP X.K .int) := by
  refine CallR.imp call_int1 fun xs H Q h => ?_
  obtain ⟨F, us, r, e, hu, hr, k⟩ := h
  unfold primSem at hr
  split at hr
  all_goals try contradiction
  all_goals cases hr
  · obtain ⟨x, rfl, hx⟩ := hu.one
    obtain rfl := hx.int
    exact .inl ⟨_, rfl, k _ _ _ _ (.val e fun F => .int _)⟩
  · obtain ⟨x, rfl, hx⟩ := hu.one
    obtain rfl := hx.bl
    exact .inr ⟨_, rfl, k _ _ _ _ (.val e fun F => .int _)⟩
theorem all_ok (hc : X.calm = true) : CallR X (.builtin "all") (rP X.K .all) := by
  refine CallR.imp (cr_all hc) fun xs H Q h => ?_
  obtain ⟨F, us, r, e, hu, hr, k⟩ := h
  unfold primSem at hr
  split at hr
  all_goals try contradiction
  obtain ⟨bs, e1, rfl⟩ := mapE hr
  obtain ⟨x, rfl, hx⟩ := hu.one
  obtain ⟨a, vs, rfl, h1, h2⟩ := hx.list e
  exact ⟨a, bs, rfl, .of (by rw [← bools_V e1 h2]; exact h1), k _ _ _ _ (.val e fun F => .bl _)⟩
theorem any_ok (hc : X.calm = true) : CallR X (.builtin "any") (rP X.K .any) := by
  refine CallR.imp (cr_any hc) fun xs H Q h => ?_
  obtain ⟨F, us, r, e, hu, hr, k⟩ := h
  unfold primSem at hr
  split at hr
  all_goals try contradiction
  obtain ⟨bs, e1, rfl⟩ := mapE hr
  obtain ⟨x, rfl, hx⟩ := hu.one
  obtain ⟨a, vs, rfl, h1, h2⟩ := hx.list e
  exact ⟨a, bs, rfl, .of (by rw [← bools_V e1 h2]; exact h1), k _ _ _ _ (.val e fun F => .bl _)⟩
theorem sum_ok (hc : X.calm = true) : CallR X (.builtin "sum") (rP X.K .sum) := by
  refine CallR.imp (cr_sum hc) fun xs H Q h => ?_
  obtain ⟨F, us, r, e, hu, hr, k⟩ := h
  unfold primSem at hr
  split at hr
  all_goals try contradiction
  obtain ⟨bs, e1, rfl⟩ := mapE hr
  obtain ⟨x, rfl, hx⟩ := hu.one
  obtain ⟨a, vs, rfl, h1, h2⟩ := hx.list e
  exact ⟨a, bs, rfl, .of (by rw [← ints_V e1 h2]; exact h1), k _ _ _ _ (.val e fun F => .int _)⟩
theorem max_ok (hc : X.calm = true) : CallR X (.builtin "max") (rP X.K .max) := by
  refine CallR.imp (cr_max hc) fun xs H Q h => ?_
  obtain ⟨F, us, r, e, hu, hr, k⟩ := h
  unfold primSem at hr
  split at hr
  all_goals try contradiction
  obtain ⟨bs, e1, hr⟩ := bindE hr
  obtain ⟨m, e2, rfl⟩ := mapE hr
  obtain ⟨x, rfl, hx⟩ := hu.one
  obtain ⟨a, vs, rfl, h1, h2⟩ := hx.list e
  refine ⟨a, bs, rfl, .of (by rw [← ints_V e1 h2]; exact h1), ?_, fun n h3 h4 => ?_⟩
  · cases bs with
    | nil => cases e2
    | cons a b => exact Nat.succ_pos _
  · rw [max_is e2 h3 h4]
    exact k _ _ _ _ (.val e fun F => .int _)
theorem min_ok (hc : X.calm = true) : CallR X (.builtin "min") (rP X.K .min) := by
  refine CallR.imp (cr_min hc) fun xs H Q h => ?_
  obtain ⟨F, us, r, e, hu, hr, k⟩ := h
  unfold primSem at hr
  split at hr
  all_goals try contradiction
  obtain ⟨bs, e1, hr⟩ := bindE hr
  obtain ⟨m, e2, rfl⟩ := mapE hr
  obtain ⟨x, rfl, hx⟩ := hu.one
  obtain ⟨a, vs, rfl, h1, h2⟩ := hx.list e
  refine ⟨a, bs, rfl, .of (by rw [← ints_V e1 h2]; exact h1), ?_, fun n h3 h4 => ?_⟩
  · cases bs with
    | nil => cases e2
    | cons a b => exact Nat.succ_pos _
  · rw [min_is e2 h3 h4]
    exact k _ _ _ _ (.val e fun F => .int _)
theorem max2_ok (hc : X.calm = true) : CallR X (.builtin "max") (rP X.K .max2) := by
  refine CallR.imp (call_max2 hc) fun xs H Q h => ?_
  obtain ⟨F, us, r, e, hu, hr, k⟩ := h
  unfold primSem at hr
  split at hr
  all_goals try contradiction
  cases hr
  obtain ⟨x, y, rfl, hx, hy⟩ := hu.two
  obtain rfl := hx.int
  obtain rfl := hy.int
  exact ⟨_, _, rfl, k _ _ _ _ (.val e fun F => .int _)⟩
theorem min2_ok (hc : X.calm = true) : CallR X (.builtin "min") (rP X.K .min2) := by
  refine CallR.imp (call_min2 hc) fun xs H Q h => ?_
  obtain ⟨F, us, r, e, hu, hr, k⟩ := h
  unfold primSem at hr
  split at hr
  all_goals try contradiction
  cases hr
  obtain ⟨x, y, rfl, hx, hy⟩ := hu.two
  obtain rfl := hx.int
  obtain rfl := hy.int
  exact ⟨_, _, rfl, k _ _ _ _ (.val e fun F => .int _)⟩
theorem ResAt.ptup {K : PySem.W.Frag} {F H : Hp} {xs : List PyData} {vs : List V} {p : Addr} {o : Obj} (s : Same F H) (hp : H p = none) (hd : o.dict = none) (hn : noKey xs = true) (h : DenAll K F vs xs) : ResAt K F H (.pt xs) (.ref p) (upd F p (.frz o (.tup vs))) (upd H p (.frz o (.tup vs))) [] :=
  ⟨Grow.newF s hp, ⟨rfl, p, vs, o, rfl, upd_same, hd, hn, h.mono (Grow.newF (u := .frz o (.tup vs)) s hp).fr⟩, List.nodup_nil, fun _ z => nomatch z⟩
/-- tuple of a list, the new object known -/
theorem call_tuple_frz : CallR X (.type "tuple") (fun xs H Q => ∃ p ys, xs = [.ref p] ∧ SqL X.K H p ys ∧ ∀ l o, o.dict = none → H l = none → Q (.ref l) (upd H l (.frz o (.tup ys)))) := by
  intro pins s σ H xs us Q I r h
  obtain ⟨p, ys, rfl, hq, q⟩ := h
  obtain ⟨u, rfl, rx⟩ := vals1 r
  cases rx
  obtain ⟨its, r', pl, hz⟩ := I.list hq
  have hlen := r'.length
  refine call_tuple_list pl.isList (fun h' kp => ?_) (by simp only [List.size_toArray] <;> omega)
  have I1 : Inv X pins σ H { s with heap := h' } := I.kept (t' := s.toks) kp
  have I2 : Inv X pins σ (upd H h'.objs.size (.frz { cls := .type "tuple", data := .seq its.toArray } (.tup ys))) { s with heap := h'.push { cls := .type "tuple", data := .seq its.toArray } } :=
    I1.laid (t' := s.toks) (fun b o e => Heap.get?_push_of_some _ e) (Nat.le_refl _) (show ObjOk X.prog X.w _ _ _ (.frz _ (.tup ys)) from ⟨Heap.get?_push_size _ rfl, hz, its, r', IsTup.new _ _⟩)
  exact ⟨.ref h'.objs.size, _, I2, rfl, q _ _ rfl (I1.hok.fresh (Nat.le_refl _))⟩
theorem CallR.or {f : Value} {r r' : List V → Hp → VK → Prop} (h : CallR X f r) (h' : CallR X f r') : CallR X f (fun xs H Q => r xs H Q ∨ r' xs H Q) := by
  intro pins s σ H xs us Q I rv q
  rcases q with q | q
  · exact h pins s σ H xs us Q I rv q
  · exact h' pins s σ H xs us Q I rv q
theorem tuple_ok : CallR X (.type "tuple") (rP X.K .tuple) := by
  refine CallR.imp (CallR.or call_tuple_of call_tuple_frz) fun xs H Q h => ?_
  obtain ⟨F, us, r, e, hu, hr, k⟩ := h
  unfold primSem at hr
  split at hr
  all_goals try contradiction
  all_goals cases hr
  · obtain ⟨x, rfl, hx⟩ := hu.one
    obtain ⟨a, vs, rfl, h1, h2⟩ := hx.list e
    split at k
    · rename_i hn
      exact .inr ⟨a, vs, rfl, .of h1, fun p o hd hp => k _ _ _ _ (.ptup e hp hd hn h2)⟩
    · exact .inl ⟨a, vs, rfl, .inl ⟨.of h1, fun p hp => k _ _ _ _ (.tup e hp h2)⟩⟩
  · obtain ⟨x, rfl, hx⟩ := hu.one
    obtain ⟨a, vs, rfl, f1, h1, h2⟩ := hx.tup e
    exact .inl ⟨a, vs, rfl, .inr ⟨h1.sq, k _ _ _ _ (.old e f1)⟩⟩
theorem list_ok : CallR X (.type "list") (rP X.K .list) := by
  refine CallR.imp call_list_of fun xs H Q h => ?_
  obtain ⟨F, us, r, e, hu, hr, k⟩ := h
  unfold primSem at hr
  split at hr
  all_goals try contradiction
  all_goals cases hr
  · obtain ⟨x, rfl, hx⟩ := hu.one
    obtain ⟨a, vs, rfl, h1, h2⟩ := hx.list e
    exact ⟨a, vs, rfl, .inl (.of h1), fun p hp => k _ _ _ _ (.lst e hp h2)⟩
  · obtain ⟨x, rfl, hx⟩ := hu.one
    obtain ⟨a, vs, rfl, f1, h1, h2⟩ := hx.tup e
    exact ⟨a, vs, rfl, .inr h1.sq, fun p hp => k _ _ _ _ (.lst e hp h2)⟩
/-- isinstance(x, T) -/
def rIsD (K : PySem.W.Frag) (T : String) : List V → Hp → VK → Prop := fun xs H Q => ∃ F x u r, xs = [x, .ty T] ∧ Same F H ∧ VwAt K F H x u ∧ primSem (.isi T) [u] = some r ∧ ∀ v F' H' B, ResAt K F H r v F' H' B → Q v H'
theorem dct_ty {K : PySem.W.Frag} {F H : Hp} {a : Addr} {t : Bool} {kvs : KVs} (h : DctAt K F H a t kvs) : TyOf K H (.ref a) (.type "dict") := by
  cases t with
  | false => obtain ⟨hk, h1, _⟩ := h; exact .dK h1
  | true => obtain ⟨hk, h1, _⟩ := h; exact .dT h1
theorem isi_ok (T : String) : CallR X (.builtin "isinstance") (rIsD X.K T) := by
  refine CallR.imp call_isi fun xs H Q h => ?_
  obtain ⟨F, x, u, r, rfl, e, hu, hr, k⟩ := h
  obtain ⟨t, e1, hr⟩ := bindE (show ((tyOf u).bind fun t => (kitB t T).map fun b => O.d (.bool b)) = some r from hr)
  obtain ⟨b, e2, rfl⟩ := mapE hr
  refine ⟨x, .ty T, .type t, .type T, b, rfl, .ty T, ?_, kit_ty e2, k _ _ _ _ (.val e fun F => .bl _)⟩
  unfold tyOf at e1
  split at e1
  all_goals try contradiction
  all_goals cases e1
  · obtain rfl := hu.non; exact .base .non
  · obtain rfl := hu.bl; exact .base (.bl _)
  · obtain rfl := hu.int; exact .base (.int _)
  · rcases hu with h | ⟨_, _, _, _, q, _⟩
    · cases h; exact .base (.str _)
    · cases q
  · obtain ⟨a, vs, rfl, h1, _⟩ := hu.list e; exact .base (.lst h1)
  · have h : Den X.K H x (.list _) := hu
    cases h with
    | lst h1 h2 => exact .base (.lst h1)
  · obtain ⟨a, vs, rfl, _, h1, _⟩ := hu.tup e
    rcases h1 with h1 | ⟨o, h1, _⟩
    · exact .base (.tup h1)
    · exact .fTuple h1
  · rcases hu with h | ⟨_, _, _, _, q, _⟩
    · cases h with
      | dk0 h1 => exact .base (.dK (e _ _ h1))
    · cases q
  · obtain ⟨a, rfl, h1⟩ := hu; exact .base (dct_ty h1)
/-- repr(x) -/
theorem repr_ok (hg : X.A.guards = some []) (hu : X.A.units + 66 < cLine) : CallR X (.builtin "repr") (rP X.K .repr) := by
  intro pins s σ H xs vs Q I rv h
  obtain ⟨F, us, r, e, hw, hr, k⟩ := h
  unfold primSem at hr
  split at hr
  all_goals try contradiction
  obtain ⟨x, e1, hr⟩ := bindE hr
  obtain ⟨y, rfl, hy⟩ := hw.one
  split at hr
  · rename_i z
    cases hr
    rw [Bool.and_eq_true, Bool.and_eq_true, Bool.and_eq_true] at z
    obtain ⟨⟨⟨z1, z2⟩, z3⟩, z4⟩ := z
    have z2 := of_decide_eq_true z2
    have z3 := of_decide_eq_true z3
    have hd := hy.den e e1
    obtain ⟨u, rfl, ry⟩ := vals1 rv
    obtain ⟨as, r1, hs⟩ := Den.reads I x y u hd ry
    have hsm : x.hasDict = true → sysModules ∉ as := fun q => hs (by rw [q] at z4; simpa using z4)
    have fin : ∀ (t : Tok) (s' : Shared), Inv X pins σ H s' → EP X pins σ Q (.str x.shown t) s' := fun t s' I' => ⟨.str x.shown, H, I', ⟨t, rfl⟩, k _ _ _ _ (.val e fun F => .str _)⟩
    cases hd with
    | non => cases ry; exact PySem.P.repr_of_none (fin _ _ (I.tok _))
    | bl b => cases ry; exact PySem.P.repr_of_bool (fin _ _ (I.tok _))
    | int i => obtain ⟨t, rfl⟩ := ry; exact PySem.P.repr_of_int (by simpa [PyData.showable] using z1) (fin _ _ (I.tok _))
    | str c => obtain ⟨t, rfl⟩ := ry; exact PySem.P.repr_of_str (fin _ _ (I.tok _)) z3
    | lst h1 h2 => cases ry; exact repr_of_reads' r1 z1 hsm hg (by omega) (fun _ _ q => q) (fun h' u tk hk => fin _ _ (I.kept hk)) z3
    | tup h1 h2 => cases ry; exact repr_of_reads' r1 z1 hsm hg (by omega) (fun _ _ q => q) (fun h' u tk hk => fin _ _ (I.kept hk)) z3
    | ftup h1 d n h2 => cases ry; exact repr_of_reads' r1 z1 hsm hg (by omega) (fun _ _ q => q) (fun h' u tk hk => fin _ _ (I.kept hk)) z3
    | dk0 h1 => cases ry; exact repr_of_reads' r1 z1 hsm hg (by omega) (fun _ _ q => q) (fun h' u tk hk => fin _ _ (I.kept hk)) z3
  · cases hr
end
end Vm


set_option Elab.async false
set_option linter.all false
set_option maxRecDepth 100000
set_option maxHeartbeats 4000000
/-! Vm, part 6a: sorting tuples some of which are empty. -/
namespace VmSort
open PySem PySem.Calls PyProof.Rows PySem.W PySem.SeqAt

section
variable {prog : Program} {w : World} {A : Around} {E : Value → Shared → Prop} {s : Shared}
theorem call_tuple_lt {Q : Value → Shared → Prop} {l b : Addr} {items items2 : Array Value} {e r : Nat → Bool} (hl : s.heap.IsTuple l items) (hb : s.heap.IsTuple b items2)
    (he : ∀ j (h1 : j < items.size) (h2 : j < items2.size), EqAt A.in1 s items[j] items2[j] (e j)) (hr : ∀ j (h1 : j < items.size) (h2 : j < items2.size), e j = false → RcLt A.in1 s items[j] items2[j] (r j))
    (h : Q (.bool (firstLt e r (decide (items.size < items2.size)) (List.range (min items.size items2.size)))) s) : wpAny (model prog w) A (call (.builtin "tuple.__lt__") [.ref l, .ref b]) Q E s := by
  obtain ⟨⟨cls, dd, data, sl⟩, ho, hc, n, hd⟩ := id hl
  obtain ⟨⟨cls2, dd2, data2, sl2⟩, ho2, hc2, n2, hd2⟩ := id hb
  simp only at hc hd hc2 hd2
  subst hc hd hc2 hd2
  exact call_meets F.slot_tuple_lt ⟨_, ho, rfl⟩ F.entry_tuple_lt (F.args_tuple_lt_2 _ _) (tuple_ltAt l b items items2 n n2 dd dd2 sl sl2 e r) ⟨ho, ho2, he, hr, h⟩
/-- a tuple against another one, both known to be of one type -/
theorem oneLt_tup {xs ys : List PyData} {a b : Value} {as bs : List Addr} {Q : Bool → Shared → Prop} (ra : Reads s.heap a (.tuple xs) as) (rb : Reads s.heap b (.tuple ys) bs) (h : alike (.tuple xs) (.tuple ys) = true)
    (hu : A.units + min (PyData.tuple xs).depth (PyData.tuple ys).depth < cLine) (hq : Q (dataLt (.tuple xs) (.tuple ys)) s) : wpAny (model prog w) A (oneLt' true a b) Q E s := by
  have hal : alikeAll xs ys = true := by simpa [alike] using h
  cases ra with
  | @tuple l o vs n _ as₁ h1 h2 h3 h4 =>
    cases rb with
    | @tuple l' o' vs' n' _ bs₁ k1 k2 k3 k4 =>
      have n1 : vs.size = xs.length := by simpa using ReadsAll.length _ _ _ h4
      have n2 : vs'.size = ys.length := by simpa using ReadsAll.length _ _ _ k4
      rw [dataLt_tuple, ← firstLt_toks xs ys hal, ← n1, ← n2] at hq
      rw [oneLt'_eq]
      simp only [if_true]
      refine wpAny_bind (wpAny_cRoomFor (room_here hu) ?_)
      refine wpAny_bind (wpAny_callSpecialIfBound?_slot (T := "tuple") ⟨_, h1, h2⟩ F.slot_tuple_lt (call_tuple_lt (e := pairEq xs ys) (r := fun j => dataLt (xs.getD j .none) (ys.getD j .none)) ⟨_, h1, h2, _, h3⟩ ⟨_, k1, k2, _, k3⟩ (fun j j1 j2 => ?_) (fun j j1 j2 hj => ?_) ?_))
      · have := eqAt_alikeAll xs ys A.in1 s vs.toList vs'.toList _ _ h4 k4 hal (room_in hu) j (by simpa using j1) (by simpa using j2)
        simpa using this
      · have := rcLt_alikeAll xs ys A.in1 s vs.toList vs'.toList _ _ h4 k4 hal (room_in hu) j (by simpa using j1) (by simpa using j2) hj
        simpa using this
      · exact wpAny_truthy_bool hq
theorem keyLt'_general (x y : Value) : keyLt' general' x y = oneLt' false x y := rfl
/-- the first of a tuple -/
def fstOf (h : Heap) (v : Value) (d : PyData) (f : Option Value) : Prop := match d with
  | .tuple [] => f = none
  | .tuple (_ :: _) => ∃ x, f = some x
  | _ => False
theorem first_run {v : Value} {xs : List PyData} {as : List Addr} {Q : Option Value → Shared → Prop} (r : Reads s.heap v (.tuple xs) as) (h : ∀ f, fstOf s.heap v (.tuple xs) f → Q f s) : wpAny (model prog w) A (firstOfTuple' v) Q E s := by
  cases r with
  | @tuple a o vs n _ as₁ ho hc hd hr =>
    rw [kas_first_eq]
    refine wpAny_bind (Looks.here (show Looks (model prog w) s.heap (typeOf (.ref a)) o.cls from (Looks.ld ho).andThen .now) ?_)
    rw [hc, if_neg (by first | decide | simp)]
    refine wpAny_bind (listItems_at ho hd (wpAny_pure (h _ ?_)))
    have n1 : vs.size = xs.length := by simpa using ReadsAll.length _ _ _ hr
    cases xs with
    | nil =>
      have : vs[0]? = none := by rw [Array.getElem?_eq_none]; rw [n1]; simp
      exact this
    | cons x xs =>
      have hl : 0 < vs.size := by rw [n1]; simp
      exact ⟨vs[0], Array.getElem?_eq_getElem hl⟩
theorem firsts_run : ∀ {vs : List Value} {ds : List PyData} {Q : List (Option Value) → Shared → Prop}, EachIs (fun v d => ∃ as, Reads s.heap v d as) vs ds → (∀ d ∈ ds, ∃ xs, d = .tuple xs) →
    (∀ fs, EachIs (fun f d => fstOf s.heap .none d f) fs ds → Q fs s) → wpAny (model prog w) A (vs.mapM firstOfTuple') Q E s
  | _, _, Q, .nil, _, h => by
    rw [List.mapM_nil]
    exact wpAny_pure (h [] .nil)
  | v :: vs, d :: ds, Q, .cons ⟨as, r⟩ t, ht, h => by
    rw [List.mapM_cons]
    obtain ⟨xs, rfl⟩ := ht d List.mem_cons_self
    refine wpAny_bind (first_run r fun f hf => ?_)
    exact wpAny_bind (firsts_run t (fun d hd => ht d (List.mem_cons_of_mem _ hd)) fun fs hfs => wpAny_pure (h (f :: fs) (.cons hf hfs)))
theorem firsts_some : ∀ {fs : List (Option Value)} {ds : List PyData}, EachIs (fun f d => fstOf s.heap .none d f) fs ds → PyData.tuple [] ∈ ds → fs.all (·.isSome) = false
  | _, _, .nil, h => by cases h
  | f :: fs, d :: ds, .cons hf t, h => by
    rw [List.all_cons]
    rcases List.mem_cons.1 h with q | q
    · subst q
      have : f = none := hf
      rw [this]
      rfl
    · rw [firsts_some t q, Bool.and_false]
/-- tuples one of which at least is empty -/
theorem sortsAt_empty {vs : List Value} {ds : List PyData} (e : EachIs (fun v d => ∃ as, Reads s.heap v d as) vs ds) (hal : AllAlike ds) (ht : ∀ d ∈ ds, ∃ xs, d = .tuple xs) (h0 : PyData.tuple [] ∈ ds) (hu : ∀ d, d ∈ ds → A.units + d.depth < cLine) : SortsAt prog w A s (dataKind s.heap ds) vs := by
  have room : ∀ {d d' : PyData}, d ∈ ds → A.units + min d.depth d'.depth < cLine := fun {d d'} hd => Nat.lt_of_le_of_lt (Nat.add_le_add_left (Nat.min_le_left _ _) _) (hu d hd)
  refine ⟨fun v hv => ?_, ?_⟩
  · obtain ⟨d, hd, as, r⟩ := e.left v hv
    exact ⟨_, dataKind_some hal hd r⟩
  · cases ds with
    | nil => cases h0
    | cons d₀ ds₀ =>
      obtain ⟨x₀, e₀⟩ := ht d₀ (List.mem_cons_self ..)
      have run : ∀ (kd : SortKind), (∀ fs : List (Option Value), EachIs (fun f d => fstOf s.heap .none d f) fs (d₀ :: ds₀) → ∀ (E : Value → Shared → Prop) {Q : SortKind → Shared → Prop}, Q kd s → wpAny (model prog w) A (do
          if ((fs.toArray[0]?).bind id).isSome then return general'
          return if (← oneTypeOnly' vs.toArray).isSome then oneType' else general') Q E s) → ∀ (E : Value → Shared → Prop) {Q : SortKind → Shared → Prop}, Q kd s → wpAny (model prog w) A (keyKind' vs.toArray) Q E s := by
        intro kd hk E Q hq
        rw [keyKind'_eq, List.mapM_toArray, map_eq_pure_bind]
        refine wpAny_bind (wpAny_bind (firsts_run e ht fun fs hfs => wpAny_pure ?_))
        have ha : (fs.toArray.all fun x => x.isSome) = false := by
          rw [List.all_toArray]; exact firsts_some hfs h0
        rw [if_neg (by rw [ha]; simp)]
        exact hk fs hfs E hq
      cases x₀ with
      | nil =>
        subst e₀
        refine ⟨oneType', ?_, fun h2 => run oneType' fun fs hfs E Q hq => ?_⟩
        · intro E x y a b Q ha hb hq
          obtain ⟨d, as, hd, ra, rfl⟩ := dataKind_inv ha
          obtain ⟨d', as', hd', rb, rfl⟩ := dataKind_inv hb
          obtain ⟨xs, rfl⟩ := ht d hd
          obtain ⟨ys, rfl⟩ := ht d' hd'
          rw [keyLt'_oneType]
          exact oneLt_tup ra rb (hal _ hd _ hd') (room hd) hq
        · cases hfs with
          | @cons f _ fs _ hf tf =>
            have hf : f = none := hf
            subst hf
            rw [if_neg (by simp)]
            rw [oneTypeOnly'_eq, List.mapM_toArray, map_eq_pure_bind]
            refine wpAny_bind (wpAny_bind (wpAny_bind (kas_mapM (r := Value.type "tuple") _ (fun v hv Q' hq => ?_) (wpAny_pure ?_))))
            · obtain ⟨d, hd, as, r⟩ := e.left v hv
              obtain ⟨xs, rfl⟩ := ht d hd
              exact (looks_reads r).here hq
            · obtain ⟨v₁, rest, rfl⟩ : ∃ v₁ rest, vs = v₁ :: rest := by
                match vs, h2 with
                | v₁ :: rest, _ => exact ⟨v₁, rest, rfl⟩
              have hall : ((List.map (fun _ => Value.type "tuple") (v₁ :: rest)).toArray.all fun x => x == Value.type "tuple") = true := by
                simp only [List.all_toArray, List.all_map, List.all_eq_true]
                intro _ _
                exact beq_self_eq_true _
              have h00 : (List.map (fun _ => Value.type "tuple") (v₁ :: rest)).toArray[0]? = some (Value.type "tuple") := by simp
              rw [h00]
              simp only [hall, if_true]
              exact wpAny_pure (wpAny_pure hq)
      | cons z zs =>
        subst e₀
        refine ⟨general', ?_, fun h2 => run general' fun fs hfs E Q hq => ?_⟩
        · intro E x y a b Q ha hb hq
          obtain ⟨d, as, hd, ra, rfl⟩ := dataKind_inv ha
          obtain ⟨d', as', hd', rb, rfl⟩ := dataKind_inv hb
          obtain ⟨xs, rfl⟩ := ht d hd
          rw [keyLt'_general]
          exact oneLt_alike (fun z => nomatch z) ra rb (hal _ hd _ hd') (by simp) (room hd) hq
        · cases hfs with
          | @cons f _ fs _ hf tf =>
            obtain ⟨x, hf⟩ : ∃ x, f = some x := hf
            subst hf
            rw [if_pos (by simp)]
            exact wpAny_pure hq
end
end VmSort


set_option Elab.async false
set_option linter.all false
set_option maxRecDepth 100000
/-! Vm, part 7: sorted, dict of pairs, get. -/
namespace Vm
open PySem PySem.Spec PyProof.Rows L2

/-! ### sorted -/
theorem sortable_of {xs : List PyData} (h : sortable xs = true) : PySem.W.AllAlike xs ∧ ((∀ d ∈ xs, ∃ ys, d = .tuple ys) ∨ PySem.W.Sortable xs) ∧ ∀ x ∈ xs, x.depth ≤ 40 := by
  unfold sortable at h
  rw [Bool.and_eq_true, Bool.and_eq_true] at h
  obtain ⟨⟨h1, h2⟩, h3⟩ := h
  refine ⟨fun d hd d' hd' => ?_, ?_, fun x hx => ?_⟩
  · exact List.all_eq_true.mp (List.all_eq_true.mp h1 d hd) d' hd'
  · rw [Bool.or_eq_true] at h2
    rcases h2 with h2 | h2
    · refine .inl fun d hd => ?_
      have q := List.all_eq_true.mp h2 d hd
      cases d with
      | tuple l => exact ⟨l, rfl⟩
      | none => cases q
      | bool b => cases q
      | int i => cases q
      | str s => cases q
      | list l => cases q
      | dict l => cases q
    · refine .inr (.inr fun d hd => ?_)
      have q := List.all_eq_true.mp h2 d hd
      refine ⟨fun z => ?_, fun l z => ?_⟩ <;> (subst z; cases q)
  · exact of_decide_eq_true (List.all_eq_true.mp h3 x hx)
theorem sortsAt_of {prog : Program} {w : World} {A : Around} {s : Shared} {vs : List Value} {ds : List PyData} (e : PySem.W.EachIs (fun v d => ∃ as, Reads s.heap v d as) vs ds) (hal : PySem.W.AllAlike ds) (hk : (∀ d ∈ ds, ∃ ys, d = .tuple ys) ∨ PySem.W.Sortable ds) (hu : ∀ d, d ∈ ds → A.units + d.depth < cLine) : PySem.W.SortsAt prog w A s (PySem.W.dataKind s.heap ds) vs := by
  rcases hk with hk | hk
  · by_cases h0 : PyData.tuple [] ∈ ds
    · exact VmSort.sortsAt_empty e hal hk h0 hu
    · refine PySem.W.SortsAt.data e hal (.inl fun d hd => ?_) hu
      obtain ⟨ys, rfl⟩ := hk d hd
      cases ys with
      | nil => exact absurd hd h0
      | cons y ys => exact ⟨y, ys, rfl⟩
  · exact PySem.W.SortsAt.data e hal hk hu
theorem sorted_data0 {prog : Program} {w : World} {A : Around} {E : Value → Shared → Prop} {s : Shared} {vs : List Value} {bs : List PyData} {R : Value → PyData → Prop} {l : Addr} {Q : Value → Shared → Prop} (hl : s.heap.IsList l vs.toArray) (e : PySem.W.EachIs R vs bs) (er : PySem.W.EachIs (fun v b => ∃ as, Reads s.heap v b as) vs bs)
    (hal : PySem.W.AllAlike (bs.map fun d => d)) (hk : (∀ d ∈ bs, ∃ ys, d = .tuple ys) ∨ PySem.W.Sortable bs) (hL : bs.length ≤ sizeLine)
    (hu : ∀ b, b ∈ bs → A.units + 2 + b.depth < cLine) (h : ∀ out, out.length = bs.length → PySem.W.EachIs R out (bs.mergeSort (PySem.W.dataLe false fun d => d)) → Q (.ref (s.heap.objs.size + 1)) { s with heap := PyProof.Rows.sortedAll s.heap vs (List.toArray out) }) :
    wpAny (model prog w) A (call (.builtin "sorted") [.ref l]) Q E s := by
  have q1 : bs.map (fun d => d) = bs := List.map_id' bs
  have er' : PySem.W.EachIs (fun v b => ∃ as, Reads (PySem.W.sortingHeap (PySem.W.copyHeap s.heap vs) (s.heap.objs.size + 1) vs) v b as) vs bs := er.mono fun _ _ ⟨as, r⟩ => ⟨as, PyProof.Rows.Reads.keeps (fun _ _ => PySem.W.sorting_copy_old) r⟩
  have SA : PySem.W.SortsAt prog w A.in1.in1 { s with heap := PySem.W.sortingHeap (PySem.W.copyHeap s.heap vs) (s.heap.objs.size + 1) vs } (PySem.W.dataKind (PySem.W.sortingHeap (PySem.W.copyHeap s.heap vs) (s.heap.objs.size + 1) vs) (bs.map fun d => d)) vs := by
    rw [q1] at hal ⊢
    exact sortsAt_of (s := { s with heap := PySem.W.sortingHeap (PySem.W.copyHeap s.heap vs) (s.heap.objs.size + 1) vs }) er' hal hk hu
  exact PySem.W.sorted_vals hl SA (by rw [e.length]; exact hL) (h _ (by rw [PySem.W.sortVals_length false rfl]; exact e.length) (PySem.W.sortVals_data (enc := fun d : PyData => d) false e er' hal))
section
variable {X : Cx} {pins : List (Addr × Obj)} {σ : L2.St} {H F : Hp} {s : Shared}
/-- each value: a V that denotes in F, and what the machine reads -/
def Ech (K : PySem.W.Frag) (F : Hp) (v : Value) (d : PyData) : Prop := ∃ x, RelV x v ∧ Den K F x d
theorem each_of {K : PySem.W.Frag} {F : Hp} : ∀ {vs : List V} {its : List Value} {ds : List PyData}, Vals vs its → DenAll K F vs ds → PySem.W.EachIs (Ech K F) its ds
  | _, _, _, .nil, .nil => .nil
  | _, _, _, .cons r t, .cons h hs => .cons ⟨_, r, h⟩ (each_of t hs)
theorem of_each {K : PySem.W.Frag} {F : Hp} : ∀ {its : List Value} {ds : List PyData}, PySem.W.EachIs (Ech K F) its ds → ∃ vs, Vals vs its ∧ DenAll K F vs ds
  | _, _, .nil => ⟨[], .nil, .nil⟩
  | _, _, .cons ⟨x, h1, h2⟩ t => by
    obtain ⟨vs, q1, q2⟩ := of_each t
    exact ⟨x :: vs, .cons h1 q1, .cons h2 q2⟩
theorem each_reads (I : Inv X pins σ H s) (e : Same F H) : ∀ {its : List Value} {ds : List PyData}, PySem.W.EachIs (Ech X.K F) its ds → PySem.W.EachIs (fun v d => ∃ as, Reads s.heap v d as) its ds
  | _, _, .nil => .nil
  | _, _, .cons ⟨x, h1, h2⟩ t => by
    obtain ⟨as, r, _⟩ := Den.reads I _ x _ (h2.mono e) h1
    exact .cons ⟨as, r⟩ (each_reads I e t)
theorem dataLe_id : PySem.W.dataLe false (fun d : PyData => d) = fun a b => !PySem.W.dataLt b a := rfl
/-- the second half of sorted: a new list of the items, sorted in its place -/
theorem sort_tail {Q : VK} (hc : X.calm = true) (I : Inv X pins σ H s) (e : Same F H) {its : List Value} {vs : List V} {ds : List PyData} (rv : Vals vs its) (hd : DenAll X.K F vs ds) (so : sortable ds = true) (hL : its.length ≤ sizeLine) (hu : X.A.units + 60 < cLine)
    (k : ∀ p ws, H p = none → DenAll X.K F ws (sortD ds) → Q (.ref p) (upd H p (.lst ws))) :
    wpAny (model X.prog X.w) X.A.in1 (do let l ← newList its; let _ ← holding [l] (call (.builtin "list.sort") [l] []); PySem.ret l) (fun (fin : PySem.Fin) s' => ∃ r, fin = .done (.ret r) ∧ EP X pins σ Q r s') X.xe s := by
  obtain ⟨z1, z2, z3⟩ := sortable_of so
  have ea := each_of rv hd
  refine wpAny_bind (wpAny_newList ?_ hL)
  generalize hp : s.heap.objs.size = p
  have hoL : (s.heap.push (seqObj "list" its.toArray 0)).get? p = some (seqObj "list" its.toArray 0) := by rw [← hp]; exact Heap.get?_push_size _ rfl
  show wpAny _ _ _ _ _ { s with heap := s.heap.push (seqObj "list" its.toArray 0) }
  have kept : ∀ b o, s.heap.get? b = some o → (PySem.W.sortingHeap (s.heap.push (seqObj "list" its.toArray 0)) p its).get? b = some o := fun b o q =>
    PySem.W.sortingHeap_old (by rw [← hp]; exact Nat.ne_of_lt (Heap.lt_size q)) (Heap.get?_push_of_some _ q)
  have er : PySem.W.EachIs (fun v d => ∃ as, Reads (PySem.W.sortingHeap (s.heap.push (seqObj "list" its.toArray 0)) p its) v d as) its ds :=
    (each_reads I e ea).mono fun _ _ ⟨as, r⟩ => ⟨as, PyProof.Rows.Reads.keeps kept r⟩
  have SA := sortsAt_of (prog := X.prog) (w := X.w) (A := X.A.in1.in1) (s := { s with heap := PySem.W.sortingHeap (s.heap.push (seqObj "list" its.toArray 0)) p its }) er z1 z2 fun d hd' => by
    have := z3 d hd'
    show X.A.units + 1 + 1 + d.depth < cLine
    omega
  refine wpAny_bind (wpAny_holding (wpAny_call_entry PyProof.Rows.slot_list_sort ⟨_, hoL, rfl⟩ PyProof.Rows.entry_list_sort
    (PySem.W.list_sort_vals (s := { s with heap := s.heap.push (seqObj "list" its.toArray 0) }) hoL SA hL ⟨_, rfl, ?_⟩) (PyProof.Rows.args_list_sort _)))
  have eo : PySem.W.EachIs (Ech X.K F) (PySem.W.sortVals (PySem.W.dataKind (PySem.W.sortingHeap (s.heap.push (seqObj "list" its.toArray 0)) p its) ds) false its its) (ds.mergeSort (PySem.W.dataLe false fun d => d)) := by
    have q := PySem.W.sortVals_data (enc := fun d : PyData => d) false ea (by exact er) (by rw [List.map_id']; exact z1)
    rw [List.map_id'] at q
    exact q
  generalize ho : PySem.W.sortVals (PySem.W.dataKind (PySem.W.sortingHeap (s.heap.push (seqObj "list" its.toArray 0)) p its) ds) false its its = out at eo ⊢
  obtain ⟨ws, r1, r2⟩ := of_each eo
  obtain ⟨ep, he'⟩ := PyProof.Rows.sortedHeap_at (vs := its) (out := out.toArray) hoL
  have hn : H p = none := by rw [← hp]; exact I.hok.fresh (Nat.le_refl _)
  have hlen : ws.length ≤ sizeLine := by
    rw [r2.length, List.length_mergeSort, ← hd.length, rv.length]
    exact hL
  refine wpAny_pure ⟨_, rfl, .ref p, upd H p (.lst ws), ?_, rfl, k p ws hn r2⟩
  have I2 : Inv X pins σ (upd H p (.lst ws)) { s with heap := PyProof.Rows.sortedHeap (s.heap.push (seqObj "list" its.toArray 0)) p its out.toArray, toks := s.toks } := by
    refine I.laid (t' := s.toks) (fun b u q => ?_) (Nat.le_of_eq hp) (show ObjOk X.prog X.w _ _ _ (.lst ws) from ⟨hlen, out, ep, r1, by simpa using he'⟩)
    have hb : b < p := by rw [← hp]; exact Heap.lt_size q
    rw [PyProof.Rows.sortedHeap_old (Nat.ne_of_lt hb) (by rw [size_push', hp]; exact Nat.lt_succ_of_lt hb)]
    exact Heap.get?_push_of_some _ q
  exact I2
end
end Vm


set_option Elab.async false
set_option linter.all false
set_option maxRecDepth 100000
/-! Vm, part 8: sorted of lists and dicts; dict of pairs. -/
namespace Vm
open PySem PySem.Spec PyProof.Rows L2

/-! ### tuples of ints and texts that stand may be taken for plain data -/
def flatK : V → Bool
  | .int _ => true
  | .str _ => true
  | _ => false
def flatF (F H : Hp) : Hp := fun b => match F b with
  | some o => some o
  | none => match H b with
    | some (.tup vs) => if vs.all flatK then some (.tup vs) else none
    | _ => none
theorem flatF_grow {F H : Hp} (s : Same F H) : Grow F H (flatF F H) H := by
  refine ⟨fun b o e => ?_, Same.refl _, fun b o e => ?_, fun b h => ?_⟩
  · unfold flatF; rw [e]
  · unfold flatF at e
    cases q : F b with
    | some u => rw [q] at e; cases e; exact s b _ q
    | none =>
      rw [q] at e
      cases r : H b with
      | none => rw [r] at e; cases e
      | some u =>
        rw [r] at e
        cases u with
        | tup vs =>
          have e : (if vs.all flatK then some (HO.tup vs) else none) = some o := e
          split at e
          · exact e
          · cases e
        | _ => cases e
  · unfold flatF at h
    cases q : F b with
    | some u => exact .inl (fun z => nomatch z)
    | none =>
      rw [q] at h
      cases r : H b with
      | none => rw [r] at h; exact absurd rfl h
      | some u =>
        rw [r] at h
        cases u with
        | tup vs => exact .inr (.inr ⟨vs, r⟩)
        | _ => exact absurd rfl h
theorem flat_kV (ks : List Key) : (ks.map kV).all flatK = true := by
  rw [List.all_map]
  exact List.all_eq_true.mpr fun k _ => by cases k <;> rfl
theorem flatF_tup {F H : Hp} (s : Same F H) {b : Addr} {ks : List Key} (h : H b = some (.tup (ks.map kV))) : flatF F H b = some (.tup (ks.map kV)) := by
  unfold flatF
  cases q : F b with
  | some u =>
    have := s b u q
    rw [h] at this
    cases this
    rfl
  | none =>
    rw [h]
    show (if (ks.map kV).all flatK then some (HO.tup (ks.map kV)) else none) = _
    rw [if_pos (flat_kV ks)]
theorem den_keys {K : PySem.W.Frag} {F : Hp} : ∀ ks : List Key, DenAll K F (ks.map kV) (ks.map keyDat)
  | [] => .nil
  | .inl i :: ks => .cons (.int i) (den_keys ks)
  | .inr x :: ks => .cons (.str x) (den_keys ks)
theorem den_key {K : PySem.W.Frag} {F : Hp} : ∀ k : Key, Den K F (kV k) (keyDat k)
  | .inl i => .int i
  | .inr x => .str x

section
variable {X : Cx}
theorem keysT {K : PySem.W.Frag} {F H : Hp} (e : Same F H) : ∀ {hk : List (List Key × V)} {kvs : KVs} {ks : List (List Key × Addr × Value)}, KTr K F hk kvs → KT H hk ks → DenAll K (flatF F H) (ks.map fun x => V.ref x.2.1) (kvs.map fun p => p.1.dat)
  | _, _, _, .nil, .nil => .nil
  | _, _, _, .cons h t, .cons h' t' => by
    rw [List.map_cons, List.map_cons]
    refine .cons ?_ (keysT e t t')
    obtain ⟨e1, _⟩ := h
    obtain ⟨e2, e3, _⟩ := h'
    rw [e1]
    exact .tup (flatF_tup e e3) (den_keys _)
theorem keysK {K : PySem.W.Frag} {F : Hp} : ∀ {hk : List (Key × V)} {kvs : KVs}, KVr K F hk kvs → DenAll K F (hk.map fun p => kV p.1) (kvs.map fun p => p.1.dat)
  | _, _, .nil => .nil
  | _, _, .cons h t => by
    rw [List.map_cons, List.map_cons]
    refine .cons ?_ (keysK t)
    rw [h.1]
    exact den_key _
theorem items_T {K : Type} [DecidableEq K] {prog : Program} {w : World} {knd : HeapKind prog w K} {es : Array DictEntry} {ks : List (K × Addr × Value)} (he : es.toList = ks.map (entryOfKey knd)) {acc : Array Value}
    (it : ItemsOf (fun i v => ∃ en : DictEntry, es[i]? = some en ∧ v = en.key) acc es.size) : acc.toList = (ks.map fun x => x.2.1).map Value.ref := by
  have hl : acc.toList.length = ks.length := by rw [Array.length_toList, it.1]; exact size_of_entries he
  refine List.ext_getElem? fun j => ?_
  rw [List.getElem?_map, List.getElem?_map]
  cases hj : acc.toList[j]? with
  | none =>
    have q : ks[j]? = none := List.getElem?_eq_none (by have := List.getElem?_eq_none_iff.mp hj; omega)
    rw [q]
    all_goals rfl
  | some v =>
    obtain ⟨en, hen, rfl⟩ := it.2 j v (by rw [← Array.getElem?_toList]; exact hj)
    have qe := entry_at he j
    rw [hen] at qe
    cases hb : ks[j]? with
    | none => rw [hb] at qe; cases qe
    | some b =>
      rw [hb] at qe
      have qe : some en = some (entryOfKey knd b) := qe
      cases qe
      all_goals rfl
theorem sorted_ok (hc : X.calm = true) (hu : X.A.units + 66 < cLine) : CallR X (.builtin "sorted") (rP X.K .sorted) := by
  intro pins s σ H xs us Q I rv h
  obtain ⟨F, ws, r, e, hw, hr, k⟩ := h
  unfold primSem at hr
  split at hr
  all_goals try contradiction
  · rename_i ds _
    obtain ⟨x, rfl, hx⟩ := hw.one
    obtain ⟨a, vs, rfl, h1, h2⟩ := hx.list e
    obtain ⟨u, rfl, ru⟩ := vals1 rv
    cases ru
    split at hr
    · rename_i so
      cases hr
      obtain ⟨z1, z2, z3⟩ := sortable_of so
      obtain ⟨its, rl, pl, hz⟩ := I.list (SqL.of h1)
      have ea := each_of rl h2
      have q1 : ds.map (fun d => d) = ds := List.map_id' ds
      refine sorted_data0 pl.isList ea (each_reads I e ea) (by rw [q1]; exact z1) z2 (by rw [← h2.length]; exact hz) (fun d hd => by have := z3 d hd; show X.A.units + 2 + d.depth < cLine; omega) fun out hl eo => ?_
      obtain ⟨ws', r1, r2⟩ := of_each eo
      obtain ⟨ep, he'⟩ := PyProof.Rows.sortedAll_at s.heap its out.toArray
      have hn : H (s.heap.objs.size + 1) = none := I.hok.fresh (Nat.le_succ _)
      have hlen : ws'.length ≤ sizeLine := by rw [r1.length, hl, ← h2.length]; exact hz
      exact ⟨.ref (s.heap.objs.size + 1), upd H (s.heap.objs.size + 1) (.lst ws'), I.laid (t' := s.toks) (fun _ _ => PyProof.Rows.sortedAll_old) (Nat.le_succ _) ⟨hlen, out, ep, r1, by simpa using he'⟩, rfl, k _ _ _ _ (.lst e hn r2)⟩
    · cases hr
  · rename_i t kvs _
    obtain ⟨x, rfl, hx⟩ := hw.one
    obtain ⟨a, rfl, hd⟩ := hx
    obtain ⟨u, rfl, ru⟩ := vals1 rv
    cases ru
    split at hr
    · rename_i so
      cases hr
      refine Calls.call_function_entry PyProof.Rows.kind_sorted PyProof.Rows.plain_sorted PyProof.Rows.entry_sorted (PyProof.Rows.args_sorted1 _) ?_
      unfold Builtin.«sorted»
      refine wpAny_bind (m := checkCount "sorted" 1 1 _) (wpAny_pure ?_)
      cases t with
      | true =>
        obtain ⟨hk, h1, h2⟩ := hd
        obtain ⟨z, hs, ks, pr, o, es, ep, ho, hx, hdt, he, hn⟩ := (show ObjOk X.prog X.w H s.heap a (.dT hk) from I.hok a _ h1)
        have l1 : es.size = ks.length := size_of_entries he
        have l2 : hk.length = ks.length := Paired.length pr
        refine wpAny_bind (PySem.W.kdu_collect (A := X.A.in1) (kdl_raw hs hx hdt) (I.ok.hd hc) ho (by omega) fun h' tk acc kp it => ?_)
        have ea := items_T he it
        have I1 : Inv X pins σ H { s with heap := h', toks := tk } := I.kept kp
        have rl : Vals ((ks.map fun x => x.2.1).map V.ref) acc.toList := by rw [ea]; exact vals_refs _
        have hD := keysT (K := X.K) e h2 pr
        have g := flatF_grow e
        refine sort_tail hc I1 g.sm rl (by rw [List.map_map]; exact hD) so (by rw [← rl.length, List.length_map, List.length_map]; omega) (by omega) fun p ws hp hw => k _ (flatF F H) _ [p] ?_
        exact ⟨g.trans (Grow.new g.sm hp), ⟨p, ws, rfl, rfl, upd_same, hw⟩, by simp, fun b hb => by
          have q : b = p := by simpa using hb
          subst q
          exact ⟨hp, g.sm.free hp, .inl ⟨ws, upd_same⟩⟩⟩
      | false =>
        obtain ⟨hk, h1, h2⟩ := hd
        obtain ⟨z, lo, ps, rel, dd⟩ := dk_rd I.hok (.inl h1)
        obtain ⟨ep, hat⟩ := dd.dictAt
        have l2 : hk.length = ps.length := rel.length
        refine wpAny_bind (PySem.W.kdu_collect (A := X.A.in1) (PySem.W.kdl_dict (knd := mixKind X.prog X.w) (kvs := ps) (ep := ep) lo) (I.ok.hd hc) hat (by omega) fun h' tk acc kp it => ?_)
        have I1 : Inv X pins σ H { s with heap := h', toks := tk } := I.kept kp
        have rl : Vals (hk.map fun p => kV p.1) acc.toList := by
          refine vals_of_at (by rw [List.length_map, l2, Array.length_toList]; exact it.1.symm) fun j x u hx hu => ?_
          obtain ⟨q, y, e1, e2⟩ := it.2 j u (by rw [← Array.getElem?_toList]; exact hu)
          rw [List.getElem?_map] at hx
          have e3 : (hk.map (·.1))[j]? = some q := by rw [rel.keys, List.getElem?_map, e1]; rfl
          rw [List.getElem?_map] at e3
          cases e4 : hk[j]? with
          | none => rw [e4] at hx; cases hx
          | some p =>
            rw [e4] at hx e3
            cases hx
            cases e3
            exact keyIs_rel e2
        exact sort_tail hc I1 e rl (keysK h2) so (by rw [← rl.length, List.length_map]; omega) (by omega) fun p ws hp hw => k _ _ _ _ (.lst e hp hw)
    · cases hr
end
end Vm


set_option Elab.async false
set_option linter.all false
set_option maxRecDepth 100000
/-! Vm, part 9: dict of pairs whose keys are tuples; reversals. -/
namespace Vm
open PySem PySem.Spec PyProof.Rows L2

/-- one pair: its tuple's place, its key's place, the key, its value as V, as what the machine reads, as data -/
structure PrE where
  T : Addr
  b : Addr
  ks : List Key
  v : V
  u : Value
  d : PyData
section
variable {X : Cx} {pins : List (Addr × Obj)} {σ : L2.St} {H F : Hp} {s : Shared}
def PrE.Ok (K : PySem.W.Frag) (F H : Hp) (h : Heap) (q : PrE) : Prop := H q.b = some (.tup (q.ks.map kV)) ∧ RelV q.v q.u ∧ Den K F q.v q.d ∧ PairAt h q.T (.ref q.b) q.u
theorem pairs_tab (I : Inv X pins σ H s) (e : Same F H) : ∀ {xs : List PyData} {vs : List V} {its : List Value} {ps : List (PyData × PyData)} {acc kvs : KVs}, DenAll X.K F vs xs → Vals vs its → pairsOf xs = some ps → dictOf true ps acc = some kvs →
    ∃ qs : List PrE, (∀ q ∈ qs, q.Ok X.K F H s.heap) ∧ its = qs.map (fun q => Value.ref q.T) ∧ kvs = qs.foldl (fun a q => kvPut a (.t q.ks) q.d) acc
  | [], _, _, _, _, _, .nil, .nil, h, g => by
    cases h
    cases g
    exact ⟨[], by simp, rfl, rfl⟩
  | x :: xs, v :: vs, i :: its, ps, acc, kvs, .cons h1 h2, .cons r1 r2, h, g => by
    unfold pairsOf at h
    split at h
    · cases ‹_ :: _ = []›
    · rename_i a b xs' ez
      obtain ⟨ex, exs⟩ := List.cons.inj ez
      subst ex exs
      obtain ⟨ps', hp, rfl⟩ := mapE h
      unfold dictOf at g
      cases ek : toDK a with
      | none => rw [ek] at g; cases g
      | some k =>
        rw [ek] at g
        simp only at g
        split at g
        · rename_i ht
          cases k with
          | k y => cases ht
          | t ks =>
            obtain ⟨T, ws, rfl, tp, hall⟩ : ∃ T ws, v = .ref T ∧ TpAt H T ws ∧ DenAll X.K F ws [a, b] := by
              cases h1 with
              | tup hT hall => exact ⟨_, _, rfl, .inl (e _ _ hT), hall⟩
              | ftup hT d n hall => exact ⟨_, _, rfl, .inr ⟨_, e _ _ hT, d⟩, hall⟩
            cases hall with
            | cons ha hall =>
              cases hall with
              | cons hb hall =>
                cases hall
                rename_i va vb
                obtain ⟨b', rfl, hb'⟩ := key_t ek ha
                cases r1
                obtain ⟨its2, rv2, pt, _⟩ := I.tuple tp.sq
                obtain ⟨u1, u2, rfl, q1, q2⟩ := vals2 rv2
                cases q1
                obtain ⟨qs, k1, k2, k3⟩ := pairs_tab I e h2 r2 hp g
                refine ⟨⟨T, b', ks, vb, u2, b⟩ :: qs, fun q hq => ?_, by rw [k2]; rfl, k3⟩
                rcases List.mem_cons.mp hq with z | z
                · subst z
                  exact ⟨e _ _ hb', q2, hb, .inl (by simpa using (show s.heap.IsTuple T _ from pt))⟩
                · exact k1 q z
        · cases g
    · cases h
theorem fold_tab {K : PySem.W.Frag} {P : Program} {w : World} {F H : Hp} {h : Heap} : ∀ {qs : List PrE} {hk : List (List Key × V)} {xs : List (List Key × Addr × Value)} {acc : KVs}, (∀ q ∈ qs, q.Ok K F H h) → KT H hk xs → KTr K F hk acc →
    KT H (qs.foldl (fun a q => putK a q.ks q.v) hk) (storedAllH xs (qs.map fun q => (q.ks, q.b, q.u))) ∧ KTr K F (qs.foldl (fun a q => putK a q.ks q.v) hk) (qs.foldl (fun a q => kvPut a (.t q.ks) q.d) acc)
  | [], _, _, _, _, a, b => ⟨a, b⟩
  | q :: qs, hk, xs, acc, ok, a, b => by
    obtain ⟨h1, h2, h3, _⟩ := ok q List.mem_cons_self
    exact fold_tab (P := P) (w := w) (qs := qs) (fun z (hz : z ∈ qs) => ok z (List.mem_cons_of_mem _ hz)) (a.put q.ks h1 h2) (Paired.putK DK.t dt_inj b q.ks h3)
theorem putK_fold_len : ∀ (qs : List PrE) (hk : List (List Key × V)), (qs.foldl (fun a q => putK a q.ks q.v) hk).length ≤ hk.length + qs.length
  | [], _ => Nat.le_refl _
  | q :: qs, hk => by
    have h1 := putK_fold_len qs (putK hk q.ks q.v)
    have h2 := length_putK hk q.ks q.v
    simp only [List.foldl_cons, List.length_cons]
    omega
/-- dict(x), x a list or a tuple whose object is known -/
def rDct (K : PySem.W.Frag) : List V → Hp → VK → Prop := fun xs H Q => ∃ F a vs ds ps kvs, xs = [V.ref a] ∧ Same F H ∧ (SqL K H a vs ∨ ∃ o, H a = some (.frz o (.tup vs)) ∧ o.dict = none) ∧ DenAll K F vs ds ∧ pairsOf ds = some ps ∧ dictOf true ps [] = some kvs ∧
  ∀ v F' H' B, ResAt K F H (.dct true kvs) v F' H' B → Q v H'
theorem dictT_ok (hc : X.calm = true) (hu : X.A.units + 66 < cLine) : CallR X (.type "dict") (rDct X.K) := by
  intro pins s σ H xs us Q I rv h
  obtain ⟨F, a, vs, ds, ps, kvs, rfl, e, hq, hd, e1, e2, k⟩ := h
  have go : ∀ {T : String} {a : Addr} {vs : List V} {ds : List PyData} {its : List Value} {ps : List (PyData × PyData)} {kvs : KVs}, us = [.ref a] → Vals vs its → PlainSeq T s.heap a its.toArray → its.length ≤ sizeLine → DenAll X.K F vs ds →
      (∀ (Ts : Nat → Addr) (ps : List (Value × Value)), PairArg X.prog X.w T a (a :: (List.range ps.length).map Ts) [] ps.length (PairRel ps) (fun h => PlainSeq T h a its.toArray ∧ PairItems h its.toArray Ts ps)) →
      pairsOf ds = some ps → dictOf true ps [] = some kvs → (∀ v F' H' B, ResAt X.K F H (.dct true kvs) v F' H' B → Q v H') → wpAny (model X.prog X.w) X.A (call (.type "dict") us) (EP X pins σ Q) X.xe s := by
    intro T a vs ds its ps kvs eu rl pl hz hd PA e1 e2 k
    subst eu
    obtain ⟨qs, k1, k2, k3⟩ := pairs_tab I e hd rl e1 e2
    let Ts : Nat → Addr := fun j => ((qs[j]?).map (·.T)).getD 0
    let pz : List (Value × Value) := qs.map fun q => (.ref q.b, q.u)
    have hn : pz.length = qs.length := List.length_map _
    have hl : its.length = qs.length := by rw [k2, List.length_map]
    refine call_dict_pairsH (knd := tupleKind (mixKind X.prog X.w)) (ps := qs.map fun q => (q.ks, q.b, q.u)) (PA Ts pz) (I.ok.hd hc) (tupleKind_room_in1 (by show X.A.units + 1 + 1 < cLine; omega)) ⟨pl, by simp [hl, hn], fun j kk vv hj => ?_⟩ ⟨by rw [List.length_map, hn], fun i key v hr => ?_⟩ (fun h' hk x hx => ?_) (by rw [hn, ← hl]; exact hz) fun h' tk hd' hk => ?_
    · rw [List.getElem?_map] at hj
      cases hq : qs[j]? with
      | none => rw [hq] at hj; cases hj
      | some q =>
        rw [hq] at hj
        cases hj
        have et : Ts j = q.T := by show ((qs[j]?).map (·.T)).getD 0 = q.T; rw [hq]; rfl
        refine ⟨?_, ?_⟩
        · rw [et, k2]
          simp [hq]
        · rw [et]
          exact (k1 q (List.mem_of_getElem? hq)).2.2.2
    · have hr : pz[i]? = some (key, v) := hr
      rw [List.getElem?_map] at hr
      cases hq : qs[i]? with
      | none => rw [hq] at hr; cases hr
      | some q =>
        rw [hq] at hr
        cases hr
        exact ⟨q.ks, q.b, by rw [List.getElem?_map, hq]; rfl, rfl⟩
    · obtain ⟨q, hq, rfl⟩ := List.mem_map.mp hx
      have hb := (k1 q hq).1
      refine tupleKind_stays.stays (fun b o vs n e' _ => hk b o (Nat.ne_of_lt (Heap.lt_size e')) (fun z => nomatch z) e') (key_of I.hok hb)
    · obtain ⟨f1, f2⟩ := fold_tab (P := X.prog) (w := X.w) (K := X.K) (acc := []) (hk := []) (xs := []) k1 .nil .nil
      have hm : (s.heap.objs.size == sysModules) = false := beq_eq_false_iff_ne.mpr (Nat.ne_of_gt I.big)
      have hf : H s.heap.objs.size = none := I.hok.fresh (Nat.le_refl _)
      have hlen : (qs.foldl (fun a q => putK a q.ks q.v) ([] : List (List Key × V))).length ≤ sizeLine := by
        have := putK_fold_len qs []
        simp only [List.length_nil, Nat.zero_add] at this
        omega
      obtain ⟨q, es, ep, hq, h2, h3, h4, _, h5⟩ := hd'
      have new : ObjOk X.prog X.w (upd H s.heap.objs.size (.dT (qs.foldl (fun a q => putK a q.ks q.v) []))) h' s.heap.objs.size (.dT (qs.foldl (fun a q => putK a q.ks q.v) [])) :=
        ⟨hlen, hm, _, f1.keeps fun c ys ec => by rw [upd_ne (ne_of_none ec hf)]; exact ec, q, es, ep, hq, h2, h3, h4, h5⟩
      refine ⟨.ref s.heap.objs.size, _, I.laid (t' := tk) (fun b o e' => hk b o (fun z => nomatch z) e') (Nat.le_refl _) new, rfl, k _ F _ [s.heap.objs.size] ?_⟩
      rw [k3]
      refine ⟨Grow.new e hf, ⟨_, rfl, rfl, _, upd_same, f2⟩, by simp, fun b hb => ?_⟩
      have eb : b = s.heap.objs.size := by simpa using hb
      subst eb
      exact ⟨hf, e.free hf, .inr (.inr ⟨_, upd_same⟩)⟩
  obtain ⟨u, rfl, ru⟩ := vals1 rv
  cases ru
  rcases hq with hq | ⟨ob, hq, hdn⟩
  · obtain ⟨its, rl, pl, hz⟩ := I.list hq
    obtain ⟨o, n, ho, hcl, hdi, hda⟩ := pl
    exact go rfl rl ⟨o, n, ho, hcl, hdi, hda⟩ (by rw [← rl.length]; exact hz) hd (fun Ts ps => PairArg.list a its.toArray Ts ps) e1 e2 k
  · obtain ⟨h1, hz, its, rl, o, ho, hcl, n, hda⟩ := (show ObjOk X.prog X.w H s.heap a (.frz ob (.tup vs)) from I.hok a _ hq)
    rw [h1] at ho
    cases ho
    exact go rfl rl ⟨ob, n, h1, hcl, hdn, hda⟩ (by rw [← rl.length]; exact hz) hd (fun Ts ps => PairArg.tuple a its.toArray Ts ps) e1 e2 k
end
end Vm


set_option Elab.async false
set_option linter.all false
set_option maxRecDepth 100000
/-! Vm, part 10: each construct's rule, by the evaluator. -/
namespace Vm
open PySem PySem.Spec PyProof.Rows L2

section
variable {X : Cx} {Φ : Fs} {a b c : Expr} {ea eb ec : E} {pos : Pos}

/-! ### leaves -/
theorem own_int {K : PySem.W.Frag} {F H : Hp} {S : List Addr} {σ : L2.St} {i : Int} {v : V} {B : List Addr} (h : OwnAt K F H S σ (.d (.int i)) v B) : v = .int i := by
  obtain ⟨_, h⟩ := (show B = [] ∧ Den K F v (.int i) from h)
  cases h
  rfl
theorem own_bl {K : PySem.W.Frag} {F H : Hp} {S : List Addr} {σ : L2.St} {i : Bool} {v : V} {B : List Addr} (h : OwnAt K F H S σ (.d (.bool i)) v B) : v = .bl i := by
  obtain ⟨_, h⟩ := (show B = [] ∧ Den K F v (.bool i) from h)
  cases h
  rfl
theorem leaf {σ : L2.St} {H F : Hp} {S : List Addr} {st : St} {A : Nat → List Addr} {x : PyData} {v : V} (R : Rel X.K F H S σ st A) (h : Den X.K F v x) : Post X.K F H S σ A (.d x) st v F H A [] := .here R ⟨rfl, h⟩
theorem e_int {i : Int} {j : Nat} : PE X (.Constant (.int i) j pos) (tE Φ X.K (.int i)) := PE.imp pe_int fun σ H Q h => by
  obtain ⟨F, S, st, A, o, st', R, e, k⟩ := h
  rw [evE] at e
  cases e
  exact k _ _ _ _ _ (leaf R (.int i))
theorem e_bl {i : Bool} {j : Nat} : PE X (.Constant (.bool i) j pos) (tE Φ X.K (.bl i)) := PE.imp pe_bl fun σ H Q h => by
  obtain ⟨F, S, st, A, o, st', R, e, k⟩ := h
  rw [evE] at e
  cases e
  exact k _ _ _ _ _ (leaf R (.bl i))
theorem e_non {j : Nat} : PE X (.Constant .none j pos) (tE Φ X.K .non) := PE.imp pe_non fun σ H Q h => by
  obtain ⟨F, S, st, A, o, st', R, e, k⟩ := h
  rw [evE] at e
  cases e
  exact k _ _ _ _ _ (leaf R .non)
theorem e_str {x : Str} {j : Nat} : PE X (.Constant (.str x) j pos) (tE Φ X.K (.str x)) := PE.imp pe_str fun σ H Q h => by
  obtain ⟨F, S, st, A, o, st', R, e, k⟩ := h
  rw [evE] at e
  cases e
  exact k _ _ _ _ _ (leaf R (.str x))
section
variable {i : Nat} {x : Str} (hN : X.N[i]? = some x) (hv : Vis X.env.scope x) (hd : (x == ("__debug__" : Str)) = false) (hcd : (x == ("__classdict__" : Str)) = false)
include hN hv hd hcd
theorem e_var : PE X (.Name x pos) (tE Φ X.K (.var i)) := PE.imp (pe_var hN hv hd hcd) fun σ H Q h => by
  obtain ⟨F, S, st, A, o, st', R, e, k⟩ := h
  rw [evE] at e
  obtain ⟨v, h1, p⟩ := rdVar_ok R e
  exact ⟨v, h1, k _ _ _ _ _ p⟩
theorem e_bor : PE X (.Name x pos) (tE Φ X.K (.bor i)) := PE.imp (pe_var hN hv hd hcd) fun σ H Q h => by
  obtain ⟨F, S, st, A, o, st', R, e, k⟩ := h
  rw [evE] at e
  obtain ⟨v, h1, p⟩ := rdBor_ok R e
  exact ⟨v, h1, k _ _ _ _ _ p⟩
theorem e_mov : PE X (.Name x pos) (tE Φ X.K (.mov i)) := PE.imp (pe_var hN hv hd hcd) fun σ H Q h => by
  obtain ⟨F, S, st, A, o, st', R, e, k⟩ := h
  rw [evE] at e
  obtain ⟨v, h1, p⟩ := rdMov_ok R e
  exact ⟨v, h1, k _ _ _ _ _ p⟩
end

/-! ### operators -/
theorem Post2.res {K : PySem.W.Frag} {F H F2 H2 : Hp} {S : List Addr} {σ : L2.St} {A A2 : Nat → List Addr} {x y : O} {s2 : St} {v w : V} {B C : List Addr} (p : Post2 K F H S σ A x y s2 v w F2 H2 A2 B C) {r : O} {u : V} {F' H' : Hp} {D : List Addr} (q : ResAt K F2 H2 r u F' H' D) :
    Post K F H S σ A r s2 u F' H' A2 D := Post.res p.step (fun _ h => .inl h) p.rel q
theorem Post.res1 {K : PySem.W.Frag} {F H F2 H2 : Hp} {S : List Addr} {σ : L2.St} {A A2 : Nat → List Addr} {x : O} {s2 : St} {v : V} {B : List Addr} (p : Post K F H S σ A x s2 v F2 H2 A2 B) {r : O} {u : V} {F' H' : Hp} {D : List Addr} (q : ResAt K F2 H2 r u F' H' D) :
    Post K F H S σ A r s2 u F' H' A2 D := Post.res p.step (fun _ h => .inl h) p.rel q
theorem e_bin (op : Bop) (ha : PE X a (tE Φ X.K ea)) (hb : PE X b (tE Φ X.K eb)) : PE X (.BinOp a op.op b pos) (tE Φ X.K (.bin op ea eb)) := PE.imp (pe_op (bop_ok op) ha hb) fun σ H Q h => by
  obtain ⟨F, S, st, A, o, st', R, e, k⟩ := h
  rw [evE] at e
  obtain ⟨⟨x, s1⟩, h1, e⟩ := bindE e
  obtain ⟨⟨y, s2⟩, h2, e⟩ := bindE e
  obtain ⟨u, hu, e⟩ := bindE e
  obtain ⟨w, hw, e⟩ := bindE e
  obtain ⟨r, hr, e⟩ := mapE e
  cases e
  exact two_read R h1 h2 fun v v' F' H' A' B C p => ⟨F', u, w, _, p.rel.same, vw_ok p.rel p.ownx hu, vw_ok p.rel p.owny hw, hr, fun z F2 H2 D q => k _ _ _ _ _ (p.res q)⟩
theorem e_neg (ha : PE X a (tE Φ X.K ea)) : PE X (.UnaryOp .USub a pos) (tE Φ X.K (.neg ea)) := PE.imp (pe_un un_neg ha) fun σ H Q h => by
  obtain ⟨F, S, st, A, o, st', R, e, k⟩ := h
  rw [evE] at e
  obtain ⟨⟨x, s1⟩, h1, e⟩ := bindE e
  refine one_read R h1 fun v F' H' A' B p => ?_
  dsimp only at e
  split at e
  · cases e
    obtain rfl := own_int p.own
    exact ⟨_, rfl, k _ _ _ _ _ (p.res1 (.val p.rel.same fun F => .int _))⟩
  · cases e
theorem e_cmp (hu : X.A.units + 66 < cLine) (op : Cop) (ha : PE X a (tE Φ X.K ea)) (hb : PE X b (tE Φ X.K eb)) (hm : behindInMarks op.op b = false) : PE X (.Compare a [op.op] [b] pos) (tE Φ X.K (.cmp op ea eb)) := PE.imp (pe_cmpR (cop_ok hu op) ha hb hm) fun σ H Q h => by
  obtain ⟨F, S, st, A, o, st', R, e, k⟩ := h
  rw [evE] at e
  obtain ⟨⟨x, s1⟩, h1, e⟩ := bindE e
  obtain ⟨⟨y, s2⟩, h2, e⟩ := bindE e
  obtain ⟨u, hu, e⟩ := bindE e
  obtain ⟨w, hw, e⟩ := bindE e
  obtain ⟨r, hr, e⟩ := mapE e
  cases e
  exact two_read R h1 h2 fun v v' F' H' A' B C p => ⟨F', u, w, _, p.rel.same, vw_ok p.rel p.ownx hu, vw_ok p.rel p.owny hw, hr, k _ _ _ _ _ (p.res (.val p.rel.same fun F => .bl _))⟩
/-- a test's end -/
theorem Post.test {K : PySem.W.Frag} {F H F2 H2 : Hp} {S : List Addr} {σ : L2.St} {A A2 : Nat → List Addr} {x : O} {s2 : St} {v : V} {B : List Addr} (p : Post K F H S σ A x s2 v F2 H2 A2 B) : PostT K F H S σ σ A s2 F2 H2 A2 := ⟨p.step.weak fun _ h => .inl h, p.rel⟩
theorem t_cmp (hu : X.A.units + 66 < cLine) (op : Cop) (ha : PE X a (tE Φ X.K ea)) (hb : PE X b (tE Φ X.K eb)) (hm : behindInMarks op.op b = false) : PT X (.Compare a [op.op] [b] pos) (tT Φ X.K (.v (.cmp op ea eb))) := PT.imp (pt_cmpR (cop_ok hu op) ha hb hm) fun σ H Q h => by
  obtain ⟨F, S, st, A, o, st', R, e, k⟩ := h
  rw [evT, evE] at e
  obtain ⟨⟨z, s3⟩, e0, e⟩ := bindE e
  obtain ⟨⟨x, s1⟩, h1, e0⟩ := bindE e0
  obtain ⟨⟨y, s2⟩, h2, e0⟩ := bindE e0
  obtain ⟨u, hu, e0⟩ := bindE e0
  obtain ⟨w, hw, e0⟩ := bindE e0
  obtain ⟨r, hr, e0⟩ := mapE e0
  cases e0
  obtain ⟨u1, hu1, e⟩ := bindE e
  obtain ⟨b1, hb1, e⟩ := mapE e
  cases e
  cases hu1
  cases hb1
  exact two_read R h1 h2 fun v v' F' H' A' B C p => ⟨F', u, w, o, p.rel.same, vw_ok p.rel p.ownx hu, vw_ok p.rel p.owny hw, hr, _, rfl, k _ _ _ ⟨p.step.weak fun _ h => .inl h, p.rel⟩⟩
theorem t_val (ha : PE X a (tE Φ X.K ea)) (he : ∀ whole, isTrue a X.env whole = (do let v ← whole; standAt a.pos; holding [v] (truthy v))) : PT X a (tT Φ X.K (.v ea)) := PT.imp (pt_truth ha he) fun σ H Q h => by
  obtain ⟨F, S, st, A, o, st', R, e, k⟩ := h
  rw [evT] at e
  obtain ⟨⟨x, s1⟩, h1, e⟩ := bindE e
  obtain ⟨u, hu, e⟩ := bindE e
  obtain ⟨b1, hb, e⟩ := mapE e
  cases e
  exact one_read R h1 fun v F' H' A' B p => ⟨o, tru_of p.rel.same (vw_ok p.rel p.own hu) hb, k _ _ _ p.test⟩
theorem t_not {t : T} (h : PT X a (tT Φ X.K t)) : PT X (.UnaryOp .Not a pos) (tT Φ X.K (.not t)) := PT.imp (pt_not h) fun σ H Q h => by
  obtain ⟨F, S, st, A, o, st', R, e, k⟩ := h
  rw [evT] at e
  obtain ⟨⟨x, s1⟩, h1, e⟩ := mapE e
  cases e
  exact ⟨F, S, st, A, x, _, R, h1, fun F' H' A' p => k _ _ _ p⟩
theorem PostT.trans {K : PySem.W.Frag} {F H F1 H1 F2 H2 : Hp} {S : List Addr} {σ σ1 σ2 : L2.St} {A A1 A2 : Nat → List Addr} {s1 s2 : St} (p : PostT K F H S σ σ1 A s1 F1 H1 A1) (q : PostT K F1 H1 S σ1 σ2 A1 s2 F2 H2 A2) : PostT K F H S σ σ2 A s2 F2 H2 A2 := ⟨p.step.trans q.step, q.rel⟩
theorem PostT.post {K : PySem.W.Frag} {F H F1 H1 F2 H2 : Hp} {S : List Addr} {σ : L2.St} {A A1 A2 : Nat → List Addr} {s1 s2 : St} {o : O} {v : V} {B : List Addr} (p : PostT K F H S σ σ A s1 F1 H1 A1) (q : Post K F1 H1 S σ A1 o s2 v F2 H2 A2 B) : Post K F H S σ A o s2 v F2 H2 A2 B :=
  ⟨p.step.trans q.step, q.rel, q.own, q.nod, q.new⟩
theorem w_and1 {t : T} (ha : PT X a (tT Φ X.K t)) : PW X (.BoolOp .And [a] pos) (tT Φ X.K t) := pw_and1 ha
theorem w_and {t u : T} {rest : List Expr} (ha : PT X a (tT Φ X.K t)) (hb : PW X (.BoolOp .And (b :: rest) pos) (tT Φ X.K u)) : PW X (.BoolOp .And (a :: b :: rest) pos) (tT Φ X.K (.and t u)) := PW.imp (pw_and ha hb) fun σ H Q h => by
  obtain ⟨F, S, st, A, o, st', R, e, k⟩ := h
  rw [evT] at e
  obtain ⟨⟨x, s1⟩, h1, e⟩ := bindE e
  refine ⟨F, S, st, A, x, s1, R, h1, fun F' H' A' p => ?_⟩
  cases x with
  | true => exact ⟨F', S, s1, A', o, st', p.rel, e, fun F2 H2 A2 q => k _ _ _ (p.trans q)⟩
  | false => cases e; exact k _ _ _ p
theorem w_or {t u : T} {rest : List Expr} (ha : PT X a (tT Φ X.K t)) (hb : PW X (.BoolOp .Or (b :: rest) pos) (tT Φ X.K u)) : PW X (.BoolOp .Or (a :: b :: rest) pos) (tT Φ X.K (.or t u)) := PW.imp (pw_or ha hb) fun σ H Q h => by
  obtain ⟨F, S, st, A, o, st', R, e, k⟩ := h
  rw [evT] at e
  obtain ⟨⟨x, s1⟩, h1, e⟩ := bindE e
  refine ⟨F, S, st, A, x, s1, R, h1, fun F' H' A' p => ?_⟩
  cases x with
  | false => exact ⟨F', S, s1, A', o, st', p.rel, e, fun F2 H2 A2 q => k _ _ _ (p.trans q)⟩
  | true => cases e; exact k _ _ _ p
theorem Post.seq {K : PySem.W.Frag} {F H F1 H1 F2 H2 : Hp} {S : List Addr} {σ : L2.St} {A A1 A2 : Nat → List Addr} {x o : O} {s1 s2 : St} {v w : V} {B C : List Addr} (p : Post K F H S σ A x s1 v F1 H1 A1 B) (q : Post K F1 H1 S σ A1 o s2 w F2 H2 A2 C) : Post K F H S σ A o s2 w F2 H2 A2 C := p.test.post q
theorem e_and {rest : List Expr} (ha : PE X a (tE Φ X.K ea)) (hb : PE X (.BoolOp .And (b :: rest) pos) (tE Φ X.K eb)) : PE X (.BoolOp .And (a :: b :: rest) pos) (tE Φ X.K (.and ea eb)) := PE.imp (pe_and ha hb) fun σ H Q h => by
  obtain ⟨F, S, st, A, o, st', R, e, k⟩ := h
  rw [evE] at e
  obtain ⟨⟨x, s1⟩, h1, e⟩ := bindE e
  refine one_read R h1 fun v F' H' A' B p => ?_
  dsimp only at e
  split at e
  · obtain rfl := own_bl p.own
    exact ⟨true, rfl, F', S, s1, A', o, st', p.rel, e, fun v2 F2 H2 A2 B2 q => k _ _ _ _ _ (p.seq q)⟩
  · cases e
    obtain rfl := own_bl p.own
    exact ⟨false, rfl, k _ _ _ _ _ (p.res1 (.val p.rel.same fun F => .bl _))⟩
  · cases e
theorem e_or {rest : List Expr} (ha : PE X a (tE Φ X.K ea)) (hb : PE X (.BoolOp .Or (b :: rest) pos) (tE Φ X.K eb)) : PE X (.BoolOp .Or (a :: b :: rest) pos) (tE Φ X.K (.or ea eb)) := PE.imp (L2.pe_or ha hb) fun σ H Q h => by
  obtain ⟨F, S, st, A, o, st', R, e, k⟩ := h
  rw [evE] at e
  obtain ⟨⟨x, s1⟩, h1, e⟩ := bindE e
  refine one_read R h1 fun v F' H' A' B p => ?_
  dsimp only at e
  split at e
  · cases e
    obtain rfl := own_bl p.own
    exact ⟨true, rfl, k _ _ _ _ _ (p.res1 (.val p.rel.same fun F => .bl _))⟩
  · obtain rfl := own_bl p.own
    exact ⟨false, rfl, F', S, s1, A', o, st', p.rel, e, fun v2 F2 H2 A2 B2 q => k _ _ _ _ _ (p.seq q)⟩
  · cases e
theorem e_not (ha : PE X a (tE Φ X.K ea)) : PE X (.UnaryOp .Not a pos) (tE Φ X.K (.not (.v ea))) := PE.imp (pe_notT ha) fun σ H Q h => by
  obtain ⟨F, S, st, A, o, st', R, e, k⟩ := h
  rw [evE, evT] at e
  obtain ⟨⟨t, s1⟩, h1, e⟩ := mapE e
  cases e
  obtain ⟨⟨x, s2⟩, h1, e⟩ := bindE h1
  obtain ⟨u, hu, e⟩ := bindE e
  obtain ⟨b1, hb, e⟩ := mapE e
  cases e
  exact one_read R h1 fun v F' H' A' B p => ⟨t, tru_of p.rel.same (vw_ok p.rel p.own hu) hb, k _ _ _ _ _ (p.res1 (.val p.rel.same fun F => .bl _))⟩
theorem e_ife {t : T} (hc : PT X c (tT Φ X.K t)) (ha : PE X a (tE Φ X.K ea)) (hb : PE X b (tE Φ X.K eb)) : PE X (.IfExp c a b pos) (tE Φ X.K (.ife t ea eb)) := PE.imp (pe_ifExp hc ha hb) fun σ H Q h => by
  obtain ⟨F, S, st, A, o, st', R, e, k⟩ := h
  rw [evE] at e
  obtain ⟨⟨x, s1⟩, h1, e⟩ := bindE e
  refine ⟨F, S, st, A, x, s1, R, h1, fun F' H' A' p => ?_⟩
  cases x with
  | true => exact ⟨F', S, s1, A', o, st', p.rel, e, fun v F2 H2 A2 B q => k _ _ _ _ _ (p.post q)⟩
  | false => exact ⟨F', S, s1, A', o, st', p.rel, e, fun v F2 H2 A2 B q => k _ _ _ _ _ (p.post q)⟩
end
end Vm


set_option Elab.async false
set_option linter.all false
set_option maxRecDepth 100000
/-! Vm, part 11: lists of expressions, displays, subscripts, built-in calls, calls. -/
namespace Vm
open PySem PySem.Spec PyProof.Rows L2

section
variable {K : PySem.W.Frag} {F H F1 H1 F2 H2 : Hp} {S : List Addr} {σ : L2.St} {A A1 A2 : Nat → List Addr} {st s1 s2 : St}
theorem PostL.nil (R : Rel K F H S σ st A) : PostL K F H S σ A [] st [] F H A [] := ⟨Step.refl.weak fun b h => h.elim id (fun z => nomatch z), R, .nil, List.nodup_nil, fun _ z => nomatch z⟩
theorem OwnAll.past {F' H' : Hp} {W W' : Addr → Prop} {os : List O} {vs : List V} {B : List Addr} (st : Step F H W F' H' W') (h : OwnAll K F H S σ os vs B) (hB : ∀ b ∈ B, ¬ W b) : OwnAll K F' H' S σ os vs B := by
  induction h with
  | nil => exact .nil
  | cons h t ih => exact .cons (h.past st fun b hb => hB b (List.mem_append_left _ hb)) (ih fun b hb => hB b (List.mem_append_right _ hb))
theorem PostL.cons {o : O} {v : V} {B C : List Addr} {os : List O} {vs : List V} (p : Post K F H S σ A o s1 v F1 H1 A1 B) (q : PostL K F1 H1 S σ A1 os s2 vs F2 H2 A2 C) : PostL K F H S σ A (o :: os) s2 (v :: vs) F2 H2 A2 (B ++ C) := by
  have sn := side_new q.step fun b hb => p.new b hb
  refine ⟨(p.step.trans (q.step.side (fun b => b ∈ B))).weak fun b h => ?_, q.rel, .cons (p.own.past q.step fun b hb => (p.new b hb).2.1) q.own, ?_, fun b hb => ?_⟩
  · rcases h with h | h
    · exact .inl (.inl h)
    · rcases List.mem_append.mp h with h | h
      · exact .inr h
      · exact .inl (.inr h)
  · refine List.nodup_append.mpr ⟨p.nod, q.nod, fun x hx y hy z => ?_⟩
    subst z
    exact (sn x hx).2.1 (.inr hy)
  · rcases List.mem_append.mp hb with h | h
    · exact ⟨(sn b h).1, fun z => (sn b h).2.1 (.inl z), (sn b h).2.2⟩
    · exact q.new b h

/-! ### freezing -/
theorem own_dat {o : O} {v : V} {B : List Addr} {x : PyData} (s : Same F H) (h : OwnAt K F H S σ o v B) (e : o.dat = some x) : Den K (absorb F H B) v x := by
  cases o with
  | d y => cases e; obtain ⟨_, h⟩ := h; exact h.mono (absorb_fr s)
  | pt xs => cases e; obtain ⟨_, a, vs, ob, rfl, h1, h2, h3, h4⟩ := h; exact .ftup (absorb_fr s _ _ h1) h2 h3 (h4.mono (absorb_fr s))
  | lst xs =>
    obtain ⟨_, h⟩ := OwnAt.frz s h rfl
    cases e
    exact h
  | mat rows =>
    obtain ⟨_, h⟩ := OwnAt.frz s h rfl
    cases e
    exact h
  | dct t kvs =>
    cases t with
    | true => cases e
    | false =>
      cases kvs with
      | cons a b => cases e
      | nil =>
        cases e
        obtain ⟨a, rfl, rfl, hk, h1, h2⟩ := h
        cases h2
        exact .dk0 (by rw [absorb_in List.mem_cons_self]; exact h1)
  | fdct t kvs => cases e
  | src => cases e
  | bor i => cases e
theorem ownAll_dat {os : List O} {vs : List V} {B : List Addr} {xs : List PyData} (s : Same F H) (h : OwnAll K F H S σ os vs B) (e : datAll os = some xs) : DenAll K (absorb F H B) vs xs := by
  induction h generalizing xs with
  | nil => cases e; exact .nil
  | @cons o v B os vs Bs h t ih =>
    unfold datAll at e
    obtain ⟨x, e1, e⟩ := bindE e
    obtain ⟨xs', e2, e⟩ := mapE e
    cases e
    exact .cons ((own_dat s h e1).mono (absorb_mono s fun b hb => List.mem_append_left _ hb)) ((ih e2).mono (absorb_mono s fun b hb => List.mem_append_right _ hb))
theorem ownAll_frz {os qs : List O} {vs : List V} {B : List Addr} (s : Same F H) (h : OwnAll K F H S σ os vs B) (e : frzAll os = some qs) : Paired (fun o v => OwnAt K (absorb F H B) H S σ o v []) qs vs := by
  induction h generalizing qs with
  | nil => cases e; exact .nil
  | @cons o v B os vs Bs h t ih =>
    unfold frzAll at e
    obtain ⟨x, e1, e⟩ := bindE e
    obtain ⟨xs', e2, e⟩ := mapE e
    cases e
    refine .cons ((OwnAt.frz s h e1).keep (absorb_mono s fun b hb => List.mem_append_left _ hb) fun _ z => nomatch z) ?_
    exact Paired.mapP (ih e2) fun _ _ z => z.keep (absorb_mono s fun b hb => List.mem_append_right _ hb) fun _ z => nomatch z
theorem step_frz {W : Addr → Prop} {B : List Addr} (st : Step F H W F1 H1 (fun b => Ow S A1 b ∨ b ∈ B)) (s : Same F1 H1) : Step F H W (absorb F1 H1 B) H1 (Ow S A1) :=
  st.trans (absorb_step s (fun b hb => .inr hb) (fun b hb => .inl hb))
theorem PostL.dats {os : List O} {vs : List V} {B : List Addr} {xs : List PyData} (p : PostL K F H S σ A os s1 vs F1 H1 A1 B) (e : datAll os = some xs) : PostT K F H S σ σ A s1 (absorb F1 H1 B) H1 A1 ∧ DenAll K (absorb F1 H1 B) vs xs :=
  ⟨⟨step_frz p.step p.rel.same, p.rel.absorb fun b hb => (p.new b hb).2.1⟩, ownAll_dat p.rel.same p.own e⟩
theorem PostL.frzs {os qs : List O} {vs : List V} {B : List Addr} (p : PostL K F H S σ A os s1 vs F1 H1 A1 B) (e : frzAll os = some qs) : PostT K F H S σ σ A s1 (absorb F1 H1 B) H1 A1 ∧ Paired (fun o v => OwnAt K (absorb F1 H1 B) H1 S σ o v []) qs vs :=
  ⟨⟨step_frz p.step p.rel.same, p.rel.absorb fun b hb => (p.new b hb).2.1⟩, ownAll_frz p.rel.same p.own e⟩
theorem Post.dat1 {o : O} {v : V} {B : List Addr} {x : PyData} (p : Post K F H S σ A o s1 v F1 H1 A1 B) (e : o.dat = some x) : PostT K F H S σ σ A s1 (absorb F1 H1 B) H1 A1 ∧ Den K (absorb F1 H1 B) v x :=
  ⟨⟨step_frz p.step p.rel.same, p.rel.absorb fun b hb => (p.new b hb).2.1⟩, own_dat p.rel.same p.own e⟩
theorem PostT.res {o : O} {v : V} {B : List Addr} (p : PostT K F H S σ σ A s1 F1 H1 A1) (q : ResAt K F1 H1 o v F2 H2 B) : Post K F H S σ A o s1 v F2 H2 A1 B := Post.res p.step (fun _ h => h) p.rel q
theorem PostL.views {os : List O} {vs : List V} {B : List Addr} {us : List Vw} (p : PostL K F H S σ A os s1 vs F1 H1 A1 B) (e : vwAll s1 os = some us) : VwsAt K F1 H1 vs us := by
  have h := p.own
  have R := p.rel
  clear p
  induction h generalizing us with
  | nil => cases e; exact .nil
  | cons h t ih =>
    unfold vwAll at e
    obtain ⟨u, e1, e⟩ := bindE e
    obtain ⟨us', e2, e⟩ := mapE e
    cases e
    exact .cons (vw_ok R h e1) (ih e2)
theorem PostL.res {os : List O} {vs : List V} {B C : List Addr} {o : O} {v : V} (p : PostL K F H S σ A os s1 vs F1 H1 A1 B) (q : ResAt K F1 H1 o v F2 H2 C) : Post K F H S σ A o s1 v F2 H2 A1 C := Post.res p.step (fun _ h => .inl h) p.rel q
end

section
variable {X : Cx} {Φ : Fs} {a b c : Expr} {as : List Expr} {ea eb ec : E} {es : Es} {pos : Pos}
theorem a_nil : PA X [] (tEs Φ X.K .nil) := PA.imp pa_nil fun σ H Q h => by
  obtain ⟨F, S, st, A, os, st', R, e, k⟩ := h
  rw [evEs] at e
  cases e
  exact k _ _ _ _ _ (.nil R)
theorem a_cons (ha : PE X a (tE Φ X.K ea)) (hr : PA X as (tEs Φ X.K es)) (hs : starEach (a :: as) X.env = (false, eval a X.env) :: starEach as X.env) : PA X (a :: as) (tEs Φ X.K (.cons ea es)) := PA.imp (pa_cons ha hr hs) fun σ H Q h => by
  obtain ⟨F, S, st, A, os, st', R, e, k⟩ := h
  rw [evEs] at e
  obtain ⟨⟨o, s1⟩, h1, e⟩ := bindE e
  obtain ⟨⟨os', s2⟩, h2, e⟩ := mapE e
  cases e
  exact ⟨F, S, st, A, o, s1, R, h1, fun v F1 H1 A1 B p => ⟨F1, S, s1, A1, os', _, p.rel, h2, fun vs F2 H2 A2 C q => k _ _ _ _ _ (PostL.cons p q)⟩⟩
theorem PostL.len {K : PySem.W.Frag} {F H F1 H1 : Hp} {S : List Addr} {σ : L2.St} {os : List O} {vs : List V} {B : List Addr} (h : OwnAll K F H S σ os vs B) : os.length = vs.length := by
  induction h with
  | nil => rfl
  | cons _ _ ih => simp [ih]
theorem e_tup {k : Nat} (h : PA X as (tEs Φ X.K es)) : PE X (.Tuple as k pos) (tE Φ X.K (.tup es)) := PE.imp (pe_tup h) fun σ H Q h => by
  obtain ⟨F, S, st, A, o, st', R, e, k⟩ := h
  rw [evE] at e
  obtain ⟨⟨os, s1⟩, h1, e⟩ := bindE e
  dsimp only at e
  split at e
  · rename_i hz
    obtain ⟨xs, h2, e⟩ := mapE e
    cases e
    refine ⟨F, S, st, A, os, _, R, h1, fun vs F1 H1 A1 B p => ⟨by rw [← PostL.len (F1 := F) (H1 := H) p.own]; exact hz, fun q hq => ?_⟩⟩
    obtain ⟨t, d⟩ := p.dats h2
    exact k _ _ _ _ _ (t.res (.tup t.rel.same hq d))
  · cases e
theorem e_lst (h : PA X as (tEs Φ X.K es)) : PE X (.List as pos) (tE Φ X.K (.lst es)) := PE.imp (pe_lst h) fun σ H Q h => by
  obtain ⟨F, S, st, A, o, st', R, e, k⟩ := h
  rw [evE] at e
  obtain ⟨⟨os, s1⟩, h1, e⟩ := bindE e
  dsimp only at e
  split at e
  · rename_i hz
    obtain ⟨xs, h2, e⟩ := mapE e
    cases e
    refine ⟨F, S, st, A, os, _, R, h1, fun vs F1 H1 A1 B p => ⟨by rw [← PostL.len (F1 := F) (H1 := H) p.own]; exact hz, fun q hq => ?_⟩⟩
    obtain ⟨t, d⟩ := p.dats h2
    exact k _ _ _ _ _ (t.res (.lst t.rel.same hq d))
  · cases e

/-! ### subscripts -/
theorem e_idx (hu : X.A.units + 66 < cLine) (ha : PE X a (tE Φ X.K ea)) (hb : PE X b (tE Φ X.K eb)) (hs : PlainIx b) : PE X (.Subscript a b pos) (tE Φ X.K (.idx ea eb)) := PE.imp (PE.or (pe_ix ix_seq ha hb hs) (pe_dget (by omega) ha hb hs)) fun σ H Q h => by
  obtain ⟨F, S, st, A, o, st', R, e, k⟩ := h
  rw [evE] at e
  obtain ⟨⟨x, s1⟩, h1, e⟩ := bindE e
  obtain ⟨⟨y, s2⟩, h2, e⟩ := bindE e
  obtain ⟨u, hu, e⟩ := bindE e
  obtain ⟨w, hw, e⟩ := bindE e
  obtain ⟨r, hr, e⟩ := mapE e
  cases e
  unfold idxSem at hr
  split at hr
  all_goals try contradiction
  · obtain ⟨d, e1, rfl⟩ := mapE hr
    refine .inl (two_read R h1 h2 fun v v' F' H' A' B C p => ?_)
    obtain ⟨a', vs, rfl, h1, h2⟩ := (vw_ok p.rel p.ownx hu).list p.rel.same
    obtain rfl := (vw_ok p.rel p.owny hw).int
    obtain ⟨v, e2, e3⟩ := atI_den h2 e1
    exact .inl ⟨a', vs, _, v, rfl, rfl, .of h1, e2, k _ _ _ _ _ (p.res (.old p.rel.same e3))⟩
  · obtain ⟨d, e1, rfl⟩ := mapE hr
    refine .inl (two_read R h1 h2 fun v v' F' H' A' B C p => ?_)
    obtain ⟨a', vs, rfl, _, h1, h2⟩ := (vw_ok p.rel p.ownx hu).tup p.rel.same
    obtain rfl := (vw_ok p.rel p.owny hw).int
    obtain ⟨v, e2, e3⟩ := atI_den h2 e1
    exact .inr (.inl ⟨a', vs, _, v, rfl, rfl, h1.sq, e2, k _ _ _ _ _ (p.res (.old p.rel.same e3))⟩)
  · obtain ⟨q, e1, hr⟩ := bindE hr
    split at hr
    · rename_i z
      obtain ⟨d, e2, rfl⟩ := mapE hr
      refine .inr (two_read R h1 h2 fun v v' F' H' A' B C p => ?_)
      obtain ⟨a', rfl, hd⟩ := vw_ok p.rel p.ownx hu
      obtain ⟨o, g, f⟩ := dget_of p.rel.same hd e1 z ((vw_ok p.rel p.owny hw).key e1)
      rw [e2] at f
      cases o with
      | none => exact f.elim
      | some v => exact ⟨a', v, rfl, g, k _ _ _ _ _ (p.res (.old p.rel.same f))⟩
    · cases hr
theorem PO.imp {e : Option Expr} {t t' : TO} (h : PO X e t) (i : ∀ σ H Q, t' σ H Q → t σ H Q) : PO X e t' := ⟨fun pins s σ H Q I q => h.run pins s σ H Q I (i σ H Q q)⟩
theorem p_no : PO X none (tOe Φ X.K .no) := PO.imp po_none fun σ H Q h => by
  obtain ⟨F, S, st, A, o, st', R, e, k⟩ := h
  rw [evOe] at e
  cases e
  exact k _ _ _ (.here R)
theorem p_yes (h : PE X a (tE Φ X.K ea)) : PO X (some a) (tOe Φ X.K (.yes ea)) := PO.imp (po_some h) fun σ H Q h => by
  obtain ⟨F, S, st, A, o, st', R, e, k⟩ := h
  rw [evOe] at e
  obtain ⟨⟨x, s1⟩, h1, e⟩ := bindE e
  dsimp only at e
  refine one_read R h1 fun v F' H' A' B p => ?_
  split at e
  · cases e
    exact ⟨_, own_int p.own, k _ _ _ p.test⟩
  · cases e
theorem e_slc {lo hi : Option Expr} {el eh : Oe} {p2 : Pos} (ha : PE X a (tE Φ X.K ea)) (hl : PO X lo (tOe Φ X.K el)) (hh : PO X hi (tOe Φ X.K eh)) : PE X (.Subscript a (.Slice lo hi none p2) pos) (tE Φ X.K (.slc ea el eh)) := PE.imp (pe_slice slc_ok ha hl hh) fun σ H Q h => by
  obtain ⟨F, S, st, A, o, st', R, e, k⟩ := h
  rw [evE] at e
  obtain ⟨⟨x, s1⟩, h1, e⟩ := bindE e
  obtain ⟨⟨l, s2⟩, h2, e⟩ := bindE e
  obtain ⟨⟨h, s3⟩, h3, e⟩ := bindE e
  obtain ⟨u, hu, e⟩ := bindE e
  obtain ⟨r, hr, e⟩ := mapE e
  cases e
  refine one_read R h1 fun v F1 H1 A1 B p => ⟨F1, S, s1, A1, l, s2, p.rel, h2, fun F2 H2 A2 q => ⟨F2, S, s2, A2, h, _, q.rel, h3, fun F3 H3 A3 q3 => ?_⟩⟩
  have sn1 := side_new q.step fun b hb => ⟨(p.new b hb).1, (p.new b hb).2.1, (p.new b hb).2.2⟩
  have ow := (p.own.past q.step fun b hb => (p.new b hb).2.1).past q3.step fun b hb => (sn1 b hb).2.1
  exact ⟨F3, u, o, q3.rel.same, vw_ok q3.rel ow hu, hr, fun v2 F4 H4 D q4 => k _ _ _ _ _ (p.test.post (q.post (q3.res q4)))⟩
end
end Vm


set_option Elab.async false
set_option linter.all false
set_option maxRecDepth 100000
/-! Vm, part 12: a tuple backwards. -/
namespace Vm
open PySem PySem.Spec PyProof.Rows L2

section
variable {prog : Program} {w : World} {A : Around} {E : Value → Shared → Prop} {s : Shared}
theorem adjust_back (n : Nat) : Builtin.Slice.sliceAdjust none none (-1) (n : Int) = ((n : Int) - 1, -1) := by
  unfold Builtin.Slice.sliceAdjust
  simp
theorem places_back (n : Nat) : Builtin.Slice.slicePlaces ((n : Int) - 1) (-1) (-1) = n := by
  unfold Builtin.Slice.slicePlaces
  simp only [show ¬ ((-1 : Int) > 0) by decide, if_false]
  split
  · rw [show (- -1 : Int) = 1 by decide, Int.ediv_one]; omega
  · omega
theorem sliced_back {sl : Addr} {vl vu vs : Value} {n : Nat} {Q : Int × Int × Nat → Shared → Prop} (hs : s.heap.IsSliceOf sl vl vu vs) (pl : IsPart vl none) (pu : IsPart vu none) (ps : IsPart vs (some (-1)))
    (h : Q ((n : Int) - 1, -1, n) s) : wpAny (model prog w) A (Builtin.Slice.sliceApplied (.ref sl) (pure (n : Int))) Q E s := by
  obtain ⟨os, hos, hcs, hds⟩ := id hs
  unfold Builtin.Slice.sliceApplied Builtin.Slice.sliceFields
  refine wpAny_bind (wpAny_bind (wpAny_field hos hds (x := vl) rfl (wpAny_bind (wpAny_field hos hds (x := vu) rfl (wpAny_bind (wpAny_field hos hds (x := vs) rfl (wpAny_pure ?_)))))))
  refine wpAny_bind (HT.slicePart_ ps ?_)
  show wpAny _ _ (if ((-1 : Int) == 0) = true then _ else _) _ _ s
  rw [if_neg (by decide)]
  refine wpAny_bind (HT.slicePart_ pl (wpAny_bind (HT.slicePart_ pu (wpAny_bind (wpAny_pure ?_)))))
  show wpAny _ _ (match Builtin.Slice.sliceAdjust none none (-1) (n : Int) with | (lo, hi) => pure (lo, (-1 : Int), Builtin.Slice.slicePlaces lo hi (-1))) _ _ s
  rw [adjust_back]
  show wpAny _ _ (pure ((n : Int) - 1, (-1 : Int), Builtin.Slice.slicePlaces ((n : Int) - 1) (-1) (-1))) _ _ s
  rw [places_back]
  exact wpAny_pure h
theorem fm_congr {α β : Type} {f g : α → Option β} : ∀ {l : List α}, (∀ x ∈ l, f x = g x) → l.filterMap f = l.filterMap g
  | [], _ => rfl
  | x :: l, h => by
    rw [List.filterMap_cons, List.filterMap_cons, h x List.mem_cons_self, fm_congr fun y hy => h y (List.mem_cons_of_mem _ hy)]
theorem pick_back (xs : Array Value) : ((List.range xs.size).filterMap fun (m : Nat) => xs[((xs.size : Int) - 1 + (m : Int) * -1).toNat]?).toArray = xs.toList.reverse.toArray := by
  congr 1
  have e : ∀ m ∈ List.range xs.size, xs[((xs.size : Int) - 1 + (m : Int) * -1).toNat]? = (xs.toList.reverse)[m]? := fun m hm => by
    have hm := List.mem_range.mp hm
    rw [List.getElem?_reverse (by simpa using hm)]
    simp only [Array.length_toList, Array.getElem?_toList]
    congr 1
    omega
  rw [fm_congr e]
  have h := PySem.W.krv_all xs.toList.reverse.toArray
  simpa using h
theorem getItem_tuple_back {t sl : Addr} {items : Array Value} {vl vu vs : Value} {Q : Value → Shared → Prop} (ht : IsTup s.heap t items) (hs : s.heap.IsSliceOf sl vl vu vs) (pl : IsPart vl none) (pu : IsPart vu none) (ps : IsPart vs (some (-1)))
    (h : Q (.ref s.heap.objs.size) { s with heap := s.heap.push { cls := .type "tuple", data := .seq items.toList.reverse.toArray } }) (hsz : items.size ≤ sizeLine) : wpAny (model prog w) A (getItem (.ref t) (.ref sl)) Q E s := by
  have htake : sizeOk (.seq items.toList.reverse.toArray) := by
    show items.toList.reverse.toArray.size ≤ sizeLine
    simpa using hsz
  obtain ⟨os, hos, hcs, hds⟩ := id hs
  have hTs : s.TypeIs (.ref sl) "slice" := ⟨os, hos, hcs⟩
  unfold getItem
  try with_reducible refine wpAny_holding ?_
  first | refine wpAny_bind (wpAny_pure ?_) | skip
  refine wpAny_bind (wpAny_sequenceKey ht.typeIs (by decide) ?_)
  refine wpAny_bind (wpAny_callSpecial?_slot (name := Str.ofString "__getitem__") ht.typeIs PyProof.Rows.slot_tuple_getitem
    (wpAny_call_entry PyProof.Rows.slot_tuple_getitem ht.typeIs entry_tuple_getitem ?_ (args_tuple_getitem _ _)))
  show wpAny _ _ (Builtin.Tuple.tupleItemsOf (.ref t) >>= _) _ _ s
  refine wpAny_bind (tupleItemsOf_ ht ?_)
  refine wpAny_bind (wpAny_typeOf hTs ?_)
  rw [if_pos (by decide)]
  refine wpAny_bind (sliced_back (n := items.size) hs pl pu ps ?_)
  have hno : ¬ ((((items.size : Int) - 1) == 0 && (-1 : Int) == 1 && items.size == items.size) = true) := by
    rw [show ((-1 : Int) == 1) = false by decide, Bool.and_false, Bool.false_and]
    exact Bool.false_ne_true
  show wpAny _ _ (if (((items.size : Int) - 1) == 0 && (-1 : Int) == 1 && items.size == items.size) = true then _ else _) _ _ s
  rw [if_neg hno, pick_back]
  first
    | exact wpAny_bind (m := Builtin.Tuple.tupleExact _) (wpAny_newObj_type (wpAny_pure ⟨_, rfl, wpAny_pure h⟩) htake)
    | exact wpAny_bind (m := Builtin.Tuple.tupleExact _) (wpAny_newObj_type (wpAny_bind (wpAny_pure (wpAny_pure ⟨_, rfl, wpAny_pure h⟩))) htake)
    | exact wpAny_bind (wpAny_bind (m := Builtin.Tuple.tupleExact _) (wpAny_newObj_type (wpAny_pure (wpAny_pure ⟨_, rfl, wpAny_pure h⟩)) htake))
    | exact wpAny_bind (wpAny_bind (m := Builtin.Tuple.tupleExact _) (wpAny_newObj_type (wpAny_pure ⟨_, rfl, wpAny_pure h⟩) htake))
end

section
variable {X : Cx} {Φ : Fs} {a : Expr} {ea : E} {pos : Pos}
/-- e[::-1], a tuple -/
def tRevT (K : PySem.W.Frag) (te : TE) : TE := fun σ H Q => te σ H fun x H1 => ∃ a xs, x = .ref a ∧ SqT K H1 a xs ∧ ∀ p, H1 p = none → Q (.ref p) (upd H1 p (.tup xs.reverse))
theorem pe_revT {e : Expr} {te : TE} {k : Nat} {p1 p2 p3 pos : Pos} (he : PE X e te) : PE X (.Subscript e (.Slice none none (some (.UnaryOp .USub (.Constant (.int 1) k p1) p2)) p3) pos) (tRevT X.K te) := by
  refine ⟨fun pins s σ H Q I h => ?_⟩
  refine Subscript_ (thn (he.run pins s σ H _ I h) fun v s1 ⟨x, H1, I1, r1, q1⟩ => ?_)
  obtain ⟨a, xs, ex, hx, q⟩ := q1
  subst ex
  cases r1
  have hst : PO X (some (.UnaryOp .USub (.Constant (.int 1) k p1) p2)) (tPart (tUn (rU fun i => .int (-i)) (tC (.int 1)))) := po_some (pe_un un_neg pe_int)
  refine wpAny_Slice (thn (po_none.run pins s1 σ H1 (fun o H2 => o = none ∧ H2 = H1) I1 ⟨rfl, rfl⟩) fun vl s2 ⟨l, H2, I2, pl, el, e2⟩ => ?_)
  subst el e2
  refine thn (po_none.run pins s2 σ H2 (fun o H3 => o = none ∧ H3 = H2) I2 ⟨rfl, rfl⟩) fun vu s3 ⟨u, H3, I3, pu, eu, e3⟩ => ?_
  subst eu e3
  refine thn (hst.run pins s3 σ H3 (fun o H4 => o = some (-1) ∧ H4 = H3) I3 ⟨1, rfl, -1, rfl, rfl, rfl⟩) fun vs s4 ⟨o, H4, I4, ps, eo, e4⟩ => ?_
  subst eo e4
  have I5 : Inv X pins σ H4 { s4 with heap := s4.heap.push { cls := .type "slice", data := .fields #[vl, vu, vs] } } := I4.kept (t' := s4.toks) fun b ob q => Heap.get?_push_of_some _ q
  obtain ⟨its, r, ht, hz⟩ := I5.tuple hx
  have hlen := r.length
  show wpAny (model X.prog X.w) X.A (subscriptTail e (.Slice none none (some (.UnaryOp .USub (.Constant (.int 1) k p1) p2)) p3) (.ref a) (.ref s4.heap.objs.size)) (EP X pins σ Q) X.xe { s4 with heap := s4.heap.push { cls := .type "slice", data := .fields #[vl, vu, vs] } }
  refine tail_any (ops := [.ref a, .ref s4.heap.objs.size]) ht.typeIs (PyProof.Rows.slot_tuple_getitem.lookup) ?_ (by with_unfolding_all rfl)
  refine getItem_tuple_back ht (Heap.IsSliceOf.new _ vl vu vs) pl pu ps ?_ (by rw [List.size_toArray]; omega)
  refine ⟨.ref _, _, I5.laid (t' := s4.toks) (o := .tup xs.reverse) (fun b ob q => Heap.get?_push_of_some _ q) (Nat.le_refl _) ?_, rfl, q _ (I5.hok.fresh (Nat.le_refl _))⟩
  exact ⟨by rw [List.length_reverse]; exact hz, _, r.reverse, IsTup.new _ _⟩
theorem e_rev {k : Nat} {p1 p2 p3 : Pos} (ha : PE X a (tE Φ X.K ea)) : PE X (.Subscript a (.Slice none none (some (.UnaryOp .USub (.Constant (.int 1) k p1) p2)) p3) pos) (tE Φ X.K (.rev ea)) := PE.imp (PE.or (pe_revL ha) (pe_revT ha)) fun σ H Q h => by
  obtain ⟨F, S, st, A, o, st', R, e, k⟩ := h
  rw [evE] at e
  obtain ⟨⟨x, s1⟩, h1, e⟩ := bindE e
  obtain ⟨u, hu, e⟩ := bindE e
  obtain ⟨r, hr, e⟩ := mapE e
  cases e
  unfold revSem at hr
  split at hr
  · cases hr
    refine .inl (one_read R h1 fun v F' H' A' B p => ?_)
    obtain ⟨a', vs, rfl, h1, h2⟩ := (vw_ok p.rel p.own hu).list p.rel.same
    exact ⟨a', vs, rfl, .of h1, fun q hq => k _ _ _ _ _ (p.res1 (.lst p.rel.same hq h2.reverse))⟩
  · cases hr
    refine .inr (one_read R h1 fun v F' H' A' B p => ?_)
    obtain ⟨a', vs, rfl, _, h1, h2⟩ := (vw_ok p.rel p.own hu).tup p.rel.same
    exact ⟨a', vs, rfl, h1.sq, fun q hq => k _ _ _ _ _ (p.res1 (.tup p.rel.same hq h2.reverse))⟩
  · cases hr
end
end Vm


set_option Elab.async false
set_option linter.all false
set_option maxRecDepth 100000
/-! Vm, part 13: calls of built-ins, of the law's own functions. -/
namespace Vm
open PySem PySem.Spec PyProof.Rows L2

section
variable {X : Cx} {Φ : Fs} {a b c : Expr} {as : List Expr} {ea eb ec : E} {es : Es} {pos p : Pos}
theorem prim_read {pr : Prim} {σ : L2.St} {H : Hp} {Q : VK} (h : tE Φ X.K (.fn pr es) σ H Q) : tCB (rP X.K pr) (tEs Φ X.K es) σ H Q := by
  obtain ⟨F, S, st, A, o, st', R, e, k⟩ := h
  rw [evE] at e
  obtain ⟨⟨os, s1⟩, h1, e⟩ := bindE e
  obtain ⟨us, hu, e⟩ := bindE e
  obtain ⟨r, hr, e⟩ := mapE e
  cases e
  exact ⟨F, S, st, A, os, _, R, h1, fun vs F1 H1 A1 B q => ⟨F1, us, o, q.rel.same, q.views hu, hr, fun v F' H' B' z => k _ _ _ _ _ (q.res z)⟩⟩
theorem e_callB {id : String} {x : Str} {pr : Prim} (hc : CallR X (.builtin id) (rP X.K pr)) (hg : Gl X x) (hm : X.mg x = none) (hv : bootBuiltins x = some (.builtin id)) (ha : PA X (a :: as) (tEs Φ X.K es)) (hn : x ≠ "__name__") (hdb : (x == ("__debug__" : Str)) = false)
    (he : starEach (a :: as) X.env = (false, eval a X.env) :: starEach as X.env) (hpl : (backTo pos (starEach as X.env)).any (·.1) = false) : PE X (.Call (.Name x p) (a :: as) [] pos) (tE Φ X.K (.fn pr es)) :=
  PE.imp (pe_callB hc hg hm hv ha hn hdb he hpl) fun σ H Q h => prim_read h
theorem e_callTy {T : String} {x : Str} {pr : Prim} (hc : CallR X (.type T) (rP X.K pr)) (hg : Gl X x) (hm : X.mg x = none) (hv : bootBuiltins x = some (.type T)) (ha : PA X (a :: as) (tEs Φ X.K es)) (hn : x ≠ "__name__") (hdb : (x == ("__debug__" : Str)) = false)
    (he : starEach (a :: as) X.env = (false, eval a X.env) :: starEach as X.env) (hpl : (backTo pos (starEach as X.env)).any (·.1) = false) : PE X (.Call (.Name x p) (a :: as) [] pos) (tE Φ X.K (.fn pr es)) :=
  PE.imp (pe_callTy hc hg hm hv ha hn hdb he hpl) fun σ H Q h => prim_read h
/-- isinstance(e, T) -/
theorem e_isi {T : String} {x y : Str} {py : Pos} (hg : Gl X x) (hm : X.mg x = none) (hv : bootBuiltins x = some (.builtin "isinstance")) (ha : PE X a (tE Φ X.K ea)) (gy : Gl X y) (my : X.mg y = none) (vy : bootBuiltins y = some (.type T))
    (hn : x ≠ "__name__") (hdb : (x == ("__debug__" : Str)) = false) (ny : y ≠ "__name__") (ydb : (y == ("__debug__" : Str)) = false)
    (he : starEach [a, .Name y py] X.env = (false, eval a X.env) :: starEach [.Name y py] X.env) : PE X (.Call (.Name x p) [a, .Name y py] [] pos) (tE Φ X.K (.fn (.isi T) (.cons ea .nil))) := by
  have h2 : PA X [Expr.Name y py] (tCons (tC (.ty T)) tNil) := pa_cons (pe_bltn gy my vy rfl ny ydb) pa_nil rfl
  refine PE.imp (pe_callB (isi_ok T) hg hm hv (pa_cons ha h2 he) hn hdb he rfl) fun σ H Q h => ?_
  obtain ⟨F, S, st, A, o, st', R, e, k⟩ := h
  rw [evE] at e
  obtain ⟨⟨os, s1⟩, h1, e⟩ := bindE e
  obtain ⟨us, hu, e⟩ := bindE e
  obtain ⟨r, hr, e⟩ := mapE e
  cases e
  rw [evEs] at h1
  obtain ⟨⟨o1, s2⟩, h1, e⟩ := bindE h1
  obtain ⟨⟨os', s3⟩, h2, e⟩ := mapE e
  rw [evEs] at h2
  cases h2
  cases e
  unfold vwAll at hu
  obtain ⟨u, hv1, e⟩ := bindE hu
  obtain ⟨us', hu', e⟩ := mapE e
  cases hu'
  cases e
  refine one_read R h1 fun v F' H' A' B q => ⟨F', v, u, o, rfl, q.rel.same, vw_ok q.rel q.own hv1, hr, fun v2 F2 H2 D z => k _ _ _ _ _ (q.res1 z)⟩
/-! ### dicts -/
theorem e_dnew {t : Bool} : PE X (.Dict [] [] pos) (tE Φ X.K (.dnew t)) := by
  cases t with
  | false =>
    refine PE.imp pe_dnewK fun σ H Q h => ?_
    obtain ⟨F, S, st, A, o, st', R, e, k⟩ := h
    rw [evE] at e
    cases e
    refine fun q hq => k _ _ _ _ _ ((PostT.here R).res ⟨Grow.new R.same hq, ⟨q, rfl, rfl, [], upd_same, .nil⟩, by simp, fun b hb => ?_⟩)
    have eb : b = q := by simpa using hb
    subst eb
    exact ⟨hq, R.same.free hq, .inr (.inl ⟨_, upd_same⟩)⟩
  | true =>
    refine PE.imp pe_dnewT fun σ H Q h => ?_
    obtain ⟨F, S, st, A, o, st', R, e, k⟩ := h
    rw [evE] at e
    cases e
    refine fun q hq => k _ _ _ _ _ ((PostT.here R).res ⟨Grow.new R.same hq, ⟨q, rfl, rfl, [], upd_same, .nil⟩, by simp, fun b hb => ?_⟩)
    have eb : b = q := by simpa using hb
    subst eb
    exact ⟨hq, R.same.free hq, .inr (.inr ⟨_, upd_same⟩)⟩
theorem seqP_ok {K : PySem.W.Frag} {F H : Hp} {S : List Addr} {σ : L2.St} {st : St} {A : Nat → List Addr} {o : O} {v : V} {B : List Addr} {xs : List PyData} (R : Rel K F H S σ st A) (h : OwnAt K F H S σ o v B) (e : seqP st o = some xs) :
    ∃ a vs, v = .ref a ∧ (SqL K H a vs ∨ ∃ ob, H a = some (.frz ob (.tup vs)) ∧ ob.dict = none) ∧ DenAll K F vs xs := by
  unfold seqP at e
  split at e
  all_goals try contradiction
  · cases e
    obtain ⟨_, a, vs, ob, rfl, h1, h2, _, h4⟩ := (show _ ∧ _ from h)
    exact ⟨a, vs, rfl, .inr ⟨ob, R.same _ _ h1, h2⟩, h4⟩
  · cases e
    obtain ⟨a, vs, rfl, _, h1, h2⟩ := (show ∃ a vs, _ from h)
    exact ⟨a, vs, rfl, .inl (.of h1), h2⟩
  · cases e
    obtain ⟨_, h⟩ := (show _ ∧ _ from h)
    cases h with
    | lst h1 h2 => exact ⟨_, _, rfl, .inl (.of (R.same _ _ h1)), h2⟩
  · rename_i i
    split at e
    · rename_i xs' q
      cases e
      obtain ⟨v', h1, h2⟩ := R.slots i _ q
      have e1 : σ[i]? = some (some v) := (show _ ∧ _ from h).2
      rw [h1] at e1
      cases e1
      obtain ⟨a, vs, rfl, _, h3, h4⟩ := (show ∃ a vs, _ from h2)
      exact ⟨a, vs, rfl, .inl (.of h3), h4⟩
    · cases e
theorem e_dof {x : Str} (hc : X.calm = true) (hu : X.A.units + 66 < cLine) (hg : Gl X x) (hm : X.mg x = none) (hv : bootBuiltins x = some (.type "dict")) (ha : PE X a (tE Φ X.K ea)) (hn : x ≠ "__name__") (hdb : (x == ("__debug__" : Str)) = false)
    (he : starEach [a] X.env = (false, eval a X.env) :: starEach [] X.env) : PE X (.Call (.Name x p) [a] [] pos) (tE Φ X.K (.dof true ea)) := by
  refine PE.imp (pe_callTy (dictT_ok hc hu) hg hm hv (pa_cons ha pa_nil he) hn hdb he rfl) fun σ H Q h => ?_
  obtain ⟨F, S, st, A, o, st', R, e, k⟩ := h
  rw [evE] at e
  obtain ⟨⟨x, s1⟩, h1, e⟩ := bindE e
  dsimp only at e
  rw [if_pos rfl] at e
  obtain ⟨xs, h2, e⟩ := bindE e
  obtain ⟨ps, h3, e⟩ := bindE e
  obtain ⟨kvs, h4, e⟩ := mapE e
  cases e
  refine one_read R h1 fun v F' H' A' B q => ?_
  obtain ⟨a', vs, rfl, hq, hd⟩ := seqP_ok q.rel q.own h2
  exact ⟨F', a', vs, xs, ps, kvs, rfl, q.rel.same, hq, hd, h3, h4, fun v2 F2 H2 D z => k _ _ _ _ _ (q.res1 z)⟩
theorem fnd_getD {K : PySem.W.Frag} {F : Hp} {o : Option V} {q : Option PyData} {z : V} {d : PyData} (f : Fnd K F o q) (h : Den K F z d) : Den K F (o.getD z) (q.getD d) := by
  cases o <;> cases q
  · exact h
  · exact f.elim
  · exact f.elim
  · exact f
theorem e_get2 {apos : Pos} (hu : X.A.units + 66 < cLine) (ho : PE X a (tE Φ X.K ea)) (he : PE X b (tE Φ X.K eb)) (hf : PE X c (tE Φ X.K ec)) (m : M2 X a "get" apos b c pos) : PE X (.Call (.Attribute a "get" apos) [b, c] [] pos) (tE Φ X.K (.mt .get2 ea (.cons eb (.cons ec .nil)))) := PE.imp (pe_dget2 (by omega) ho he hf m) fun σ H Q h => by
  obtain ⟨F, S, st, A, o, st', R, e, k⟩ := h
  rw [evE] at e
  obtain ⟨⟨x, s1⟩, h1, e⟩ := bindE e
  obtain ⟨u0, hu0, e⟩ := bindE e
  split at e
  case isFalse => cases e
  rename_i hty
  obtain ⟨⟨os, s2⟩, h2, e⟩ := bindE e
  obtain ⟨us, hus, e⟩ := bindE e
  obtain ⟨r, hr, e⟩ := mapE e
  cases e
  rw [evEs] at h2
  obtain ⟨⟨y, s3⟩, g2, e⟩ := bindE h2
  obtain ⟨⟨os', s4⟩, g3, e⟩ := mapE e
  cases e
  rw [evEs] at g3
  obtain ⟨⟨z, s5⟩, g4, e⟩ := bindE g3
  obtain ⟨⟨os2, s6⟩, g5, e⟩ := mapE e
  cases e
  rw [evEs] at g5
  cases g5
  unfold vwAll at hus
  obtain ⟨ux, hux, e⟩ := bindE hus
  obtain ⟨us2, e2, e⟩ := mapE e
  cases e
  unfold vwAll at e2
  obtain ⟨uy, huy, e⟩ := bindE e2
  obtain ⟨us3, e3, e⟩ := mapE e
  cases e
  unfold vwAll at e3
  obtain ⟨uz, huz, e⟩ := bindE e3
  obtain ⟨us4, e4, e⟩ := mapE e
  cases e
  cases e4
  refine one_read R h1 fun v F1 H1 A1 B1 q1 => ?_
  have ev0 := vw_ok q1.rel q1.own hu0
  obtain ⟨t0, kv0, rfl⟩ : ∃ t kvs, u0 = .dct t kvs := by
    cases u0 with
    | dct t kvs => exact ⟨t, kvs, rfl⟩
    | d x => cases hty
    | h x => cases hty
  obtain ⟨a', rfl, hd0⟩ := ev0
  refine ⟨a', rfl, hd0.isD, one_read q1.rel g2 fun v2 F2 H2 A2 B2 q2 => one_read q2.rel g4 fun v3 F3 H3 A3 B3 q3 => ?_⟩
  have P2 : Post2 X.K F H S σ A x y s3 (.ref a') v2 F2 H2 A2 B1 B2 := q1.two q2
  have sx := side_new q2.step fun b hb => q1.new b hb
  have sx3 := side_new q3.step fun b hb => P2.newB b hb
  have ox := P2.ownx.past q3.step fun b hb => (P2.newB b hb).2.1
  have oy := P2.owny.past q3.step fun b hb => (P2.newC b hb).2.1
  have wx := vw_ok q3.rel ox hux
  have wy := vw_ok q3.rel oy huy
  have wz := vw_ok q3.rel q3.own huz
  unfold mtSem at hr
  split at hr
  · cases ‹Mt.get2 = Mt.get1›
  · rename_i t kvs dx dy em eus
    cases eus
    obtain ⟨kk, ek, hr⟩ := bindE hr
    split at hr
    · rename_i ht
      cases hr
      obtain ⟨a2, ea2, hd⟩ := wx
      cases ea2
      obtain ⟨ov, g, f⟩ := dget_of q3.rel.same hd ek ht (wy.key ek)
      obtain rfl := wz.int
      exact ⟨ov, g, k _ _ _ _ _ (((q1.seq q2).seq q3).res1 (.old q3.rel.same (fnd_getD f (.int _))))⟩
    · cases hr
  · cases hr
end
end Vm


set_option Elab.async false
set_option linter.all false
set_option maxRecDepth 100000
/-! Vm, part 14: what a function promises; calls. -/
namespace Vm
open PySem PySem.Spec PyProof.Rows L2

def Args (K : PySem.W.Frag) (F H : Hp) (S : List Addr) (os : List O) (vs : List V) : Prop := Paired (fun o v => OwnAt K F H S [] o v []) os vs
/-- a function that gives a value and keeps what stands -/
def spP (K : PySem.W.Frag) (n : Nat) (φ : PFn) : Sp := fun vs H Q _ => vs.length = n ∧ ∃ F os r, Same F H ∧ Args K F H [] os vs ∧ φ os = some r ∧ ∀ v F' H' B, ResAt K F H r v F' H' B → Q v H'
/-- the value r stands; the source has been drawn from -/
structure ResS (K : PySem.W.Frag) (F H : Hp) (S : List Addr) (r : O) (src' : Src) (v : V) (F' H' : Hp) (B : List Addr) : Prop where
  step : Step F H (fun b => b ∈ S) F' H' (fun b => b ∈ S ∨ b ∈ B)
  same : Same F' H'
  src : SrcRel F' H' S (some src')
  own : OwnAt K F' H' S [] r v B
  nod : B.Nodup
  new : ∀ b ∈ B, H b = none ∧ F' b = none ∧ Mu H' b
def spS (K : PySem.W.Frag) (n : Nat) (φ : SFn) : Sp := fun vs H Q _ => vs.length = n ∧ ∃ F S src os r src', Same F H ∧ SrcRel F H S (some src) ∧ Args K F H S os vs ∧ φ os src = some (r, src') ∧ ∀ v F' H' B, ResS K F H S r src' v F' H' B → Q v H'

section
variable {K : PySem.W.Frag} {F H F1 H1 F2 H2 : Hp} {S : List Addr} {σ : L2.St} {A A1 A2 : Nat → List Addr} {st s1 : St}
theorem OwnAt.bare {o : O} {v : V} {B : List Addr} (h : OwnAt K F H S σ o v B) (f : o.free = true) : OwnAt K F H [] [] o v B := h.any f
theorem OwnAt.unslot {o : O} {v : V} {B : List Addr} (h : OwnAt K F H S σ o v B) (f : ∀ i, o ≠ .bor i) : OwnAt K F H S [] o v B := by
  cases o with
  | bor i => exact absurd rfl (f i)
  | d x => exact h
  | pt xs => exact h
  | lst xs => exact h
  | mat rows => exact h
  | dct t kvs => exact h
  | fdct t kvs => exact h
  | src => exact h
theorem OwnAt.reslot {o : O} {v : V} {B : List Addr} (h : OwnAt K F H S [] o v B) : OwnAt K F H S σ o v B := by
  cases o with
  | bor i => have e := h.2; simp at e
  | d x => exact h
  | pt xs => exact h
  | lst xs => exact h
  | mat rows => exact h
  | dct t kvs => exact h
  | fdct t kvs => exact h
  | src => exact h
theorem frz_nobor {o o' : O} (e : o.frz = some o') : ∀ i, o' ≠ .bor i := by
  intro i z
  subst z
  cases o <;> cases e
theorem frzAll_nobor : ∀ {os qs : List O}, frzAll os = some qs → ∀ q ∈ qs, ∀ i, q ≠ .bor i
  | [], _, e => by cases e; intro q h; cases h
  | o :: os, qs, e => by
    unfold frzAll at e
    obtain ⟨x, e1, e⟩ := bindE e
    obtain ⟨xs, e2, e⟩ := mapE e
    cases e
    intro q h
    rcases List.mem_cons.mp h with h | h
    · subst h; exact frz_nobor e1
    · exact frzAll_nobor e2 q h
theorem args_S {os : List O} {vs : List V} (h : Paired (fun o v => OwnAt K F H S σ o v []) os vs) (n : ∀ q ∈ os, ∀ i, q ≠ .bor i) : Args K F H S os vs :=
  Paired.mapM h fun o v ho z => z.unslot (n o ho)
theorem args_P {os : List O} {vs : List V} (h : Paired (fun o v => OwnAt K F H S σ o v []) os vs) (n : os.all O.free = true) : Args K F H [] os vs :=
  Paired.mapM h fun o v ho z => z.bare (List.all_eq_true.mp n o ho)
/-- the state's relation, the source drawn from -/
theorem Rel.drawn {src' : Src} {r : O} {v : V} {B : List Addr} (R : Rel K F H S σ st A) (q : ResS K F H S r src' v F1 H1 B) : Rel K F1 H1 S σ { st with src := some src' } A where
  same := q.same
  slots := fun i o e => let ⟨v, h1, h2⟩ := R.slots i o e; ⟨v, h1, h2.past q.step fun b hb => (R.out i b hb).2.1⟩
  nobor := R.nobor
  nod := R.nod
  dis := R.dis
  out := fun i b hb => by
    obtain ⟨h1, h2, h3⟩ := R.out i b hb
    have h3' : Mu H1 b := h3.keep fun o e => q.step.keep b o e h2
    refine ⟨?_, h2, h3'⟩
    cases z : F1 b with
    | none => rfl
    | some u =>
      rcases q.step.frz b (ne_none_of z) with y | y | y
      · exact absurd h1 y
      · exact absurd y h2
      · exact (h3.noFre y).elim
  emp := R.emp
  src := q.src
  len := R.len
theorem Post.drawn {src' : Src} {r : O} {v : V} {B : List Addr} (p : PostT K F H S σ σ A s1 F1 H1 A1) (q : ResS K F1 H1 S r src' v F2 H2 B) : Post K F H S σ A r { s1 with src := some src' } v F2 H2 A1 B := by
  refine ⟨?_, p.rel.drawn q, q.own.reslot, q.nod, fun b hb => ⟨(q.new b hb).2.1, fun z => ?_, (q.new b hb).2.2⟩⟩
  · refine (p.step.trans (show Step F1 H1 (Ow S A1) F2 H2 (fun b => (b ∈ S ∨ b ∈ B) ∨ ∃ i, b ∈ A1 i) from q.step.side (fun b => ∃ i, b ∈ A1 i))).weak fun b h => ?_
    rcases h with (h | h) | h
    · exact .inl (.inl h)
    · exact .inr h
    · exact .inl (.inr h)
  · have hn := (q.new b hb).1
    rcases z with z | ⟨i, z⟩
    · have rs := p.rel.src
      cases hs : s1.src with
      | none => rw [hs] at rs; have rs : S = [] := rs; rw [rs] at z; cases z
      | some s =>
        rw [hs] at rs
        obtain ⟨sa, ca, e, _, _, h1, h2⟩ := rs
        rw [e] at z
        rcases List.mem_cons.mp z with z | z
        · rw [z, h1] at hn; cases hn
        · have z : b = ca := by simpa using z
          rw [z, h2] at hn; cases hn
    · exact (p.rel.out i b z).2.2.ne hn
end

section
variable {X : Cx} {Φ : Fs} {a : Expr} {as : List Expr} {es : Es} {pos p : Pos} {x f : Str} {n k : Nat}
theorem e_call {φ : PFn} (hΦ : Φ.p f = some (n, φ)) (c : C8.Cal X.prog X.w X.K X.mg X.base k x (spP X.K n φ) []) {j : Nat} (hr : Room j X.A) (hk : k ≤ j) (hg : Gl X x) (ha : PA X (a :: as) (tEs Φ X.K es))
    (hdb : (x == ("__debug__" : Str)) = false) (he : starEach (a :: as) X.env = (false, eval a X.env) :: starEach as X.env) (hpl : (backTo pos (starEach as X.env)).any (·.1) = false) :
    PE X (.Call (.Name x p) (a :: as) [] pos) (tE Φ X.K (.call f es)) := PE.imp (C8.pe_c c hr hk hg ha hdb he hpl) fun σ H Q h => by
  obtain ⟨F, S, st, A, o, st', R, e, k⟩ := h
  rw [evE] at e
  obtain ⟨⟨os, s1⟩, h1, e⟩ := bindE e
  obtain ⟨qs, h2, e⟩ := bindE e
  rw [hΦ] at e
  dsimp only at e
  split at e
  · rename_i hn
    obtain ⟨r, h3, e⟩ := mapE e
    cases e
    refine ⟨F, S, st, A, os, _, R, h1, fun vs F1 H1 A1 B q => ?_⟩
    obtain ⟨t, d⟩ := q.frzs h2
    refine ⟨?_, _, qs, o, t.rel.same, ?_, h3, fun v F' H' B' z => k _ _ _ _ _ (t.res z)⟩
    · rw [List.append_nil, ← Paired.len d]; exact hn.1
    · rw [List.append_nil]; exact args_P d hn.2
  · cases e
theorem e_calls {φ : SFn} (hΦ : Φ.s f = some (n, φ)) (c : C8.Cal X.prog X.w X.K X.mg X.base k x (spS X.K n φ) []) {j : Nat} (hr : Room j X.A) (hk : k ≤ j) (hg : Gl X x) (ha : PA X (a :: as) (tEs Φ X.K es))
    (hdb : (x == ("__debug__" : Str)) = false) (he : starEach (a :: as) X.env = (false, eval a X.env) :: starEach as X.env) (hpl : (backTo pos (starEach as X.env)).any (·.1) = false) :
    PE X (.Call (.Name x p) (a :: as) [] pos) (tE Φ X.K (.calls f es)) := PE.imp (C8.pe_c c hr hk hg ha hdb he hpl) fun σ H Q h => by
  obtain ⟨F, S, st, A, o, st', R, e, k⟩ := h
  rw [evE] at e
  obtain ⟨⟨os, s1⟩, h1, e⟩ := bindE e
  obtain ⟨qs, h2, e⟩ := bindE e
  rw [hΦ] at e
  dsimp only at e
  cases hs : s1.src with
  | none => rw [hs] at e; cases e
  | some src =>
    rw [hs] at e
    dsimp only at e
    split at e
    · rename_i hn
      obtain ⟨⟨r, src'⟩, h3, e⟩ := mapE e
      cases e
      refine ⟨F, S, st, A, os, _, R, h1, fun vs F1 H1 A1 B q => ?_⟩
      obtain ⟨t, d⟩ := q.frzs h2
      refine ⟨?_, _, S, src, qs, r, src', t.rel.same, ?_, ?_, h3, fun v F' H' B' z => k _ _ _ _ _ (Post.drawn t z)⟩
      · rw [List.append_nil, ← Paired.len d]; exact hn
      · rw [← hs]; exact t.rel.src
      · rw [List.append_nil]; exact args_S d (frzAll_nobor h2)
    · cases e
end
end Vm


set_option Elab.async false
set_option linter.all false
set_option maxRecDepth 100000
/-! Vm, part 15: what is walked. -/
namespace Vm
open PySem PySem.Spec PyProof.Rows L2

/-- the walk gives these, one by one -/
def Dlv (K : PySem.W.Frag) (J : L2.It) (xs : List PyData) (F : Hp) : Prop := ∀ F1 H1, Same F F1 → Same F1 H1 → ∀ i,
  (∀ d, xs[i]? = some d → J.go i H1 ∧ ∀ x H2, J.yld i H1 x H2 → ∃ F2, Grow F1 H1 F2 H2 ∧ Den K F2 x d) ∧ (xs.length ≤ i → J.stop i H1)
def tIt (Φ : Fs) (K : PySem.W.Frag) (it : Vm.It) : TI := fun σ H R => ∃ F S st A xs st', Rel K F H S σ st A ∧ evIt Φ it st = some (xs, st') ∧ ∀ J F' H' A', PostT K F H S σ σ A st' F' H' A' → Dlv K J xs F' → R J H'
theorem PI.imp {X : Cx} {tg e : Expr} {t t' : TI} (h : PI X tg e t) (i : ∀ σ H Q, t' σ H Q → t σ H Q) : PI X tg e t' := ⟨fun pins s σ H Q I q => h.run pins s σ H Q I (i σ H Q q)⟩
theorem PI.or {X : Cx} {tg e : Expr} {t t' : TI} (h : PI X tg e t) (h' : PI X tg e t') : PI X tg e (fun σ H Q => t σ H Q ∨ t' σ H Q) := ⟨fun pins s σ H Q I q => q.elim (h.run pins s σ H Q I) (h'.run pins s σ H Q I)⟩

theorem lst_uniq {K : PySem.W.Frag} {H : Hp} {a : Addr} {vs ws : List V} (h : H a = some (.lst vs)) (q : Rd H a (.lst ws)) : ws = vs := by
  rcases q with q | ⟨o, q⟩
  · rw [h] at q; cases q; rfl
  · rw [h] at q; cases q
section
variable {K : PySem.W.Frag} {F : Hp}
/-- the end of a walk over a sequence: what Itl, Itt say, where only the tracked object tells -/
theorem dlv_list {a : Addr} {vs : List V} {ds : List PyData} (h : F a = some (.lst vs)) (hd : DenAll K F vs ds) : Dlv K (Itl K a) ds F := by
  intro F1 H1 e1 e2 i
  have h1 := e2 _ _ (e1 _ _ h)
  refine ⟨fun d hi => ?_, fun hi => ⟨vs, .of h1, by rw [hd.length]; exact hi⟩⟩
  obtain ⟨v, hv, dv⟩ := hd.get hi
  refine ⟨⟨vs, v, .of h1, hv⟩, fun x H2 y => ?_⟩
  obtain ⟨rfl, y⟩ := y
  have := y vs (.of h1)
  rw [hv] at this
  cases this
  exact ⟨F1, Grow.refl e2, dv.mono e1⟩
theorem dlv_tup {a : Addr} {vs : List V} {ds : List PyData} (h : TpAt F a vs) (hd : DenAll K F vs ds) : Dlv K (Itt K a) ds F := by
  intro F1 H1 e1 e2 i
  have h1 := (h.mono e1).mono e2
  refine ⟨fun d hi => ?_, fun hi => ⟨vs, h1.sq, by rw [hd.length]; exact hi⟩⟩
  obtain ⟨v, hv, dv⟩ := hd.get hi
  refine ⟨⟨vs, v, h1.sq, hv⟩, fun x H2 y => ?_⟩
  obtain ⟨rfl, y⟩ := y
  have := y vs h1.sq
  rw [hv] at this
  cases this
  exact ⟨F1, Grow.refl e2, dv.mono e1⟩
theorem rngD_get {a : Int} {n i : Nat} {d : PyData} (h : (rngD a n)[i]? = some d) : i < n ∧ d = .int (a + i) := by
  unfold rngD at h
  rw [List.getElem?_map] at h
  by_cases z : i < n
  · rw [List.getElem?_range z] at h
    exact ⟨z, (Option.some.inj h).symm⟩
  · rw [List.getElem?_eq_none (by simpa using z)] at h
    cases h
theorem dlv_rng {a : Int} {n : Nat} : Dlv K (Itr a n) (rngD a n) F := by
  intro F1 H1 e1 e2 i
  refine ⟨fun d hi => ?_, fun hi => show n ≤ i by simpa [rngD] using hi⟩
  obtain ⟨z, rfl⟩ := rngD_get hi
  refine ⟨z, fun x H2 y => ?_⟩
  obtain ⟨rfl, rfl⟩ := y
  exact ⟨F1, Grow.refl e2, .int _⟩
theorem zipD_get : ∀ {xs ys : List PyData} {i : Nat} {d : PyData}, (zipD xs ys)[i]? = some d → ∃ x y, xs[i]? = some x ∧ ys[i]? = some y ∧ d = .tuple [x, y]
  | [], _, _, _, h => by simp [zipD] at h
  | _ :: _, [], _, _, h => by simp [zipD] at h
  | x :: xs, y :: ys, 0, d, h => ⟨x, y, rfl, rfl, by simpa [zipD] using h.symm⟩
  | x :: xs, y :: ys, i + 1, d, h => by
    obtain ⟨u, w, h1, h2, h3⟩ := zipD_get (xs := xs) (ys := ys) (i := i) (d := d) (by simpa [zipD] using h)
    exact ⟨u, w, by simpa using h1, by simpa using h2, h3⟩
theorem zipD_len : ∀ {xs ys : List PyData} {i : Nat}, (zipD xs ys).length ≤ i → xs.length ≤ i ∨ ys.length ≤ i
  | [], _, _, _ => .inl (Nat.zero_le _)
  | _ :: _, [], _, _ => .inr (Nat.zero_le _)
  | x :: xs, y :: ys, 0, h => by simp [zipD] at h
  | x :: xs, y :: ys, i + 1, h => by
    rcases zipD_len (xs := xs) (ys := ys) (i := i) (by simpa [zipD] using h) with h | h
    · exact .inl (by simpa using h)
    · exact .inr (by simpa using h)
theorem dlv_zipT {a b : Addr} {vs ws : List V} {xs ys : List PyData} (h : TpAt F a vs) (h' : TpAt F b ws) (hd : DenAll K F vs xs) (hd' : DenAll K F ws ys) : Dlv K (RZ.ItzT K a b) (zipD xs ys) F := by
  intro F1 H1 e1 e2 i
  have h1 := (h.mono e1).mono e2
  have h2 := (h'.mono e1).mono e2
  refine ⟨fun d hi => ?_, fun hi => ⟨vs, ws, h1.sq, h2.sq, ?_⟩⟩
  · obtain ⟨x, y, hx, hy, rfl⟩ := zipD_get hi
    obtain ⟨v, hv, dv⟩ := hd.get hx
    obtain ⟨w, hw, dw⟩ := hd'.get hy
    refine ⟨⟨vs, ws, v, w, h1.sq, h2.sq, hv, hw⟩, fun z H2 q => ?_⟩
    obtain ⟨T, x', y', rfl, hT, rfl, f1, f2⟩ := q
    have a1 := f1 vs h1.sq
    have a2 := f2 ws h2.sq
    rw [hv] at a1
    rw [hw] at a2
    cases a1
    cases a2
    have g : Grow F1 H1 (upd F1 T (.tup [v, w])) (upd H1 T (.tup [v, w])) := Grow.newF e2 hT
    exact ⟨_, g, .tup upd_same (.cons (dv.mono (e1.trans g.fr)) (.cons (dw.mono (e1.trans g.fr)) .nil))⟩
  · rw [hd.length, hd'.length]
    exact zipD_len hi
theorem dlv_zipL {a b : Addr} {vs ws : List V} {xs ys : List PyData} (h : F a = some (.lst vs)) (h' : F b = some (.lst ws)) (hd : DenAll K F vs xs) (hd' : DenAll K F ws ys) : Dlv K (Itz K a b) (zipD xs ys) F := by
  intro F1 H1 e1 e2 i
  have h1 := e2 _ _ (e1 _ _ h)
  have h2 := e2 _ _ (e1 _ _ h')
  refine ⟨fun d hi => ?_, fun hi => ⟨vs, ws, .of h1, .of h2, ?_⟩⟩
  · obtain ⟨x, y, hx, hy, rfl⟩ := zipD_get hi
    obtain ⟨v, hv, dv⟩ := hd.get hx
    obtain ⟨w, hw, dw⟩ := hd'.get hy
    refine ⟨⟨vs, ws, v, w, .of h1, .of h2, hv, hw⟩, fun z H2 q => ?_⟩
    obtain ⟨T, x', y', rfl, hT, rfl, f1, f2⟩ := q
    have a1 := f1 vs (.of h1)
    have a2 := f2 ws (.of h2)
    rw [hv] at a1
    rw [hw] at a2
    cases a1
    cases a2
    have g : Grow F1 H1 (upd F1 T (.tup [v, w])) (upd H1 T (.tup [v, w])) := Grow.newF e2 hT
    exact ⟨_, g, .tup upd_same (.cons (dv.mono (e1.trans g.fr)) (.cons (dw.mono (e1.trans g.fr)) .nil))⟩
  · rw [hd.length, hd'.length]
    exact zipD_len hi
theorem Den.lst_of {v : V} {ds : List PyData} (h : Den K F v (.list ds)) : ∃ a vs, v = .ref a ∧ F a = some (.lst vs) ∧ DenAll K F vs ds := by
  cases h with
  | lst h1 h2 => exact ⟨_, _, rfl, h1, h2⟩
theorem Den.tup_of {v : V} {ds : List PyData} (h : Den K F v (.tuple ds)) : ∃ a vs, v = .ref a ∧ TpAt F a vs ∧ DenAll K F vs ds := by
  cases h with
  | tup h1 h2 => exact ⟨_, _, rfl, .inl h1, h2⟩
  | ftup h1 d n h2 => exact ⟨_, _, rfl, .inr ⟨_, h1, d⟩, h2⟩
end

section
variable {X : Cx} {Φ : Fs} {tg a b : Expr} {ea eb : E} {pos p : Pos}
theorem i_seq (ha : PE X a (tE Φ X.K ea)) : PI X tg a (tIt Φ X.K (.seq ea)) := PI.imp (PI.or (pi_list ha) (pi_tup ha)) fun σ H Q h => by
  obtain ⟨F, S, st, A, xs, st', R, e, k⟩ := h
  rw [evIt] at e
  obtain ⟨⟨x, s1⟩, h1, e⟩ := bindE e
  obtain ⟨o, h2, e⟩ := bindE e
  obtain ⟨ys, h3, e⟩ := mapE e
  cases e
  cases o with
  | list ds =>
    cases h3
    refine .inl (one_read R h1 fun v F' H' A' B q => ?_)
    obtain ⟨t, d⟩ := q.dat1 h2
    obtain ⟨a', vs, rfl, g1, g2⟩ := d.lst_of
    exact ⟨a', rfl, ⟨vs, .of (t.rel.same _ _ g1)⟩, k _ _ _ _ t (dlv_list g1 g2)⟩
  | tuple ds =>
    cases h3
    refine .inr (one_read R h1 fun v F' H' A' B q => ?_)
    obtain ⟨t, d⟩ := q.dat1 h2
    obtain ⟨a', vs, rfl, g1, g2⟩ := d.tup_of
    exact ⟨a', rfl, ⟨vs, (g1.mono t.rel.same).sq⟩, k _ _ _ _ t (dlv_tup g1 g2)⟩
  | none => cases h3
  | bool z => cases h3
  | int z => cases h3
  | str z => cases h3
  | dict z => cases h3
theorem bnd_of {i : Int} (h : inBnd i = true) : -(2 ^ 62) ≤ i ∧ i < 2 ^ 62 := by
  unfold inBnd at h
  rw [Bool.and_eq_true, decide_eq_true_eq, decide_eq_true_eq] at h
  exact h
theorem i_rng1 (hg : Gl X "range") (hm : X.mg "range" = none) (ha : PE X a (tE Φ X.K ea)) (hs : starEach [a] X.env = [(false, eval a X.env)]) : PI X tg (.Call (.Name "range" p) [a] [] pos) (tIt Φ X.K (.rng1 ea)) := PI.imp (pi_range1 hg hm (pa_cons ha pa_nil hs) hs) fun σ H Q h => by
  obtain ⟨F, S, st, A, xs, st', R, e, k⟩ := h
  rw [evIt] at e
  obtain ⟨⟨x, s1⟩, h1, e⟩ := bindE e
  refine one_read R h1 fun v F' H' A' B q => ?_
  dsimp only at e
  split at e
  · split at e
    · rename_i hb
      cases e
      obtain ⟨z1, z2⟩ := bnd_of hb
      exact ⟨_, by rw [own_int q.own], z1, z2, k _ _ _ _ q.test dlv_rng⟩
    · cases e
  · cases e
theorem i_rng2 (hg : Gl X "range") (hm : X.mg "range" = none) (ha : PE X a (tE Φ X.K ea)) (hb : PE X b (tE Φ X.K eb)) (hs : starEach [a, b] X.env = [(false, eval a X.env), (false, eval b X.env)]) (hs2 : starEach [b] X.env = [(false, eval b X.env)]) :
    PI X tg (.Call (.Name "range" p) [a, b] [] pos) (tIt Φ X.K (.rng2 ea eb)) := PI.imp (pi_range2 hg hm (pa_cons ha (pa_cons hb pa_nil hs2) (by rw [hs, hs2])) hs hs2) fun σ H Q h => by
  obtain ⟨F, S, st, A, xs, st', R, e, k⟩ := h
  rw [evIt] at e
  obtain ⟨⟨x, s1⟩, h1, e⟩ := bindE e
  obtain ⟨⟨y, s2⟩, h2, e⟩ := bindE e
  refine two_read R h1 h2 fun v w F' H' A' B C q => ?_
  dsimp only at e
  split at e
  · split at e
    · rename_i hb
      cases e
      rw [Bool.and_eq_true] at hb
      obtain ⟨z1, z2⟩ := bnd_of hb.1
      obtain ⟨z3, z4⟩ := bnd_of hb.2
      exact ⟨_, _, by rw [own_int q.ownx, own_int q.owny], ⟨z1, z2, z3, z4⟩, k _ _ _ _ ⟨q.step.weak fun _ h => .inl h, q.rel⟩ dlv_rng⟩
    · cases e
  · cases e
theorem two_dat {σ : L2.St} {H F : Hp} {S : List Addr} {st s1 s2 : St} {A : Nat → List Addr} {x y : O} {dx dy : PyData} (R : Rel X.K F H S σ st A) (h1 : evE Φ ea st = some (x, s1)) (h2 : evE Φ eb s1 = some (y, s2)) (hd : datAll [x, y] = some [dx, dy]) {Q : List V → Hp → Prop}
    (k : ∀ v w F' H' A', PostT X.K F H S σ σ A s2 F' H' A' → Den X.K F' v dx → Den X.K F' w dy → Q [v, w] H') : tCons (tE Φ X.K ea) (tCons (tE Φ X.K eb) tNil) σ H Q :=
  ⟨F, S, st, A, x, s1, R, h1, fun v F1 H1 A1 B p => ⟨F1, S, s1, A1, y, s2, p.rel, h2, fun w F2 H2 A2 C q => by
    obtain ⟨t, d⟩ := (PostL.cons p (PostL.cons q (PostL.nil q.rel))).dats hd
    cases d with
    | cons d1 d2 =>
      cases d2 with
      | cons d2 d3 => exact k v w _ _ _ t d1 d2⟩⟩
theorem i_zip {elts : List Expr} {kk : Nat} {tpos : Pos} (hg : Gl X "zip") (hm : X.mg "zip" = none) (ha : PE X a (tE Φ X.K ea)) (hb : PE X b (tE Φ X.K eb)) (hs : starEach [a, b] X.env = (false, eval a X.env) :: starEach [b] X.env) (hs2 : starEach [b] X.env = (false, eval b X.env) :: starEach [] X.env) (hpl : (backTo pos (starEach [b] X.env)).any (·.1) = false) :
    PI X (.Tuple elts kk tpos) (.Call (.Name "zip" p) [a, b] [] pos) (tIt Φ X.K (.zip ea eb)) := PI.imp (RZ.pi_zipA hg hm (pa_cons ha (pa_cons hb pa_nil hs2) hs) hs hpl) fun σ H Q h => by
  obtain ⟨F, S, st, A, xs, st', R, e, k⟩ := h
  rw [evIt] at e
  obtain ⟨⟨x, s1⟩, h1, e⟩ := bindE e
  obtain ⟨⟨y, s2⟩, h2, e⟩ := bindE e
  obtain ⟨ds, h3, e⟩ := bindE e
  obtain ⟨⟨us, ws⟩, h4, e⟩ := mapE e
  cases e
  unfold zip2 at h4
  split at h4
  · cases h4
    refine two_dat R h1 h2 h3 fun v w F' H' A' t d1 d2 => ?_
    obtain ⟨a1, vs1, rfl, g1, g2⟩ := d1.lst_of
    obtain ⟨a2, vs2, rfl, g3, g4⟩ := d2.lst_of
    exact ⟨a1, a2, vs1, vs2, rfl, .inl ⟨.of (t.rel.same _ _ g1), .of (t.rel.same _ _ g3), k _ _ _ _ t (dlv_zipL g1 g3 g2 g4)⟩⟩
  · cases h4
    refine two_dat R h1 h2 h3 fun v w F' H' A' t d1 d2 => ?_
    obtain ⟨a1, vs1, rfl, g1, g2⟩ := d1.tup_of
    obtain ⟨a2, vs2, rfl, g3, g4⟩ := d2.tup_of
    exact ⟨a1, a2, vs1, vs2, rfl, .inr ⟨(g1.mono t.rel.same).sq, (g3.mono t.rel.same).sq, k _ _ _ _ t (dlv_zipT g1 g3 g2 g4)⟩⟩
  · cases h4
end
end Vm


set_option Elab.async false
set_option linter.all false
set_option maxRecDepth 100000
set_option maxHeartbeats 2000000
/-! Vm: zip(.., strict=True) of two tuples. -/
namespace Vm
open PySem PySem.Spec PyProof.Rows L2

/-- the zip object, strict -/
def ZS (h : Heap) (z TI TO : Addr) (f0 : Value) : Prop :=
  h.get? z = some { cls := .type "zip", dict := none, data := .fields #[f0, .bool false, .bool true, .ref TI, .ref TO], slots := #[] }
section
variable {prog : Program} {w : World} {A : Around} {E : Value → Shared → Prop} {s : Shared}
theorem draw_item {it l : Addr} {i : Nat} {items : Array Value} {x : Value} {Q : Option Value → Shared → Prop} (hit : s.heap.IsTupleIter it l i) (hl : s.heap.IsTuple l items) (hx : items[i]? = some x)
    (hQ : ∀ h', h'.IsTupleIter it l (i + 1) → Heap.SameBut it s.heap h' → Q (some x) { s with heap := h' }) : wpAny (model prog w) A (Builtin.SmallTypes.nextOrEnd (.ref it)) Q E s := by
  unfold Builtin.SmallTypes.nextOrEnd
  exact wpAny_bind (wpAny_attempt (RZ.nextOf_tuple_item hit hl hx fun h' a b => wpAny_pure (hQ h' a b)))
theorem draw_end {it l : Addr} {i : Nat} {items : Array Value} {Q : Option Value → Shared → Prop} (hh : A.handled = none) (hit : s.heap.IsTupleIter it l i) (hl : s.heap.IsTuple l items) (hx : items[i]? = none)
    (hQ : ∀ h', Heap.ExtBut it s.heap h' → Q none { s with heap := h' }) : wpAny (model prog w) A (Builtin.SmallTypes.nextOrEnd (.ref it)) Q E s := by
  unfold Builtin.SmallTypes.nextOrEnd
  refine wpAny_bind (wpAny_attempt (RZ.nextOf_tuple_end hh hit hl hx fun h' e hk he => ?_))
  obtain ⟨o, ho, hc⟩ := he
  refine wpAny_bind (wpAny_isInstance (T := "StopIteration") (b := true) ⟨o, ho, hc⟩ isSubtype_stop ?_)
  exact wpAny_pure (hQ h' hk)
theorem zs_item {z TI TO i1 i2 l1 l2 : Addr} {k1 k2 : Nat} {xs ys : Array Value} {x y a b : Value} {Q : Value → Shared → Prop} (D : ZipApart z TI TO i1 i2 l1 l2)
    (hz : ZS s.heap z TI TO .none) (hTI : IsPair s.heap TI (.ref i1) (.ref i2)) (hTO : IsPair s.heap TO a b) (h1 : s.heap.IsTupleIter i1 l1 k1) (h2 : s.heap.IsTupleIter i2 l2 k2)
    (hl1 : s.heap.IsTuple l1 xs) (hl2 : s.heap.IsTuple l2 ys) (hx : xs[k1]? = some x) (hy : ys[k2]? = some y)
    (hQ : ∀ h', ZS h' z TI TO (rawInt s.heap.objs.size) → IsPair h' TO x y → h'.IsTupleIter i1 l1 (k1 + 1) → h'.IsTupleIter i2 l2 (k2 + 1) → IsPair h' s.heap.objs.size x y →
      (∀ c o, c ≠ z → c ≠ TO → c ≠ i1 → c ≠ i2 → s.heap.get? c = some o → h'.get? c = some o) → Q (.ref s.heap.objs.size) { s with heap := h' }) :
    wpAny (model prog w) A (Builtin.«zip.__next__» ⟨[.ref z], []⟩) (fun fin s' => ∃ v, fin = .done (.ret v) ∧ Q v s') E s := by
  show wpAny _ _ (field (.ref z) 2 >>= _) _ _ _
  refine wpAny_bind (wpAny_field hz rfl (x := .bool true) rfl ?_)
  show wpAny _ _ (field (.ref z) 3 >>= _) _ _ _
  refine wpAny_bind (wpAny_field hz rfl (x := .ref TI) rfl ?_)
  refine wpAny_bind (wpAny_seqItems hTI rfl ?_)
  show wpAny _ _ (Builtin.SmallTypes.ownedTupleIsFree (.ref z) >>= _) _ _ _
  refine wpAny_bind ?_
  unfold Builtin.SmallTypes.ownedTupleIsFree
  refine wpAny_bind (wpAny_field hz rfl (x := .none) rfl (wpAny_pure ?_))
  simp only [if_true]
  refine wpAny_bind (wpAny_rule ?_)
  refine wpAny_bind (wpAny_field hz rfl (x := .ref TO) rfl ?_)
  refine wpAny_bind (wpAny_setField_rec hz (by simp) fun h₁ hz₁ hs₁ => ?_)
  replace hz₁ : ZS h₁ z TI TO .ellipsis := hz₁
  refine wpAny_bind ?_
  simp only [List.zipIdx_cons, List.zipIdx_nil, List.forIn_cons, List.forIn_nil]
  -- the first
  refine wpAny_bind (wpAny_bind (wpAny_onRaise ?_))
  show wpAny _ _ (Builtin.SmallTypes.nextOrEnd (.ref i1)) _ _ _
  refine draw_item (h1.extBut hs₁.extBut D.i1z) (hl1.extBut hs₁.extBut D.l1z) hx fun h₂ h1₂ hs₂ => ?_
  have hTO₂ : IsPair h₂ TO a b := hs₂.extBut _ _ D.TOi1 (hs₁.extBut _ _ D.TOz hTO)
  refine wpAny_bind (wpAny_seqItems hTO₂ rfl ?_)
  refine wpAny_bind (wpAny_updateSeq_pair hTO₂ fun h₃ hTO₃ hs₃ => ?_)
  replace hTO₃ : IsPair h₃ TO x b := hTO₃
  refine wpAny_bind (wpAny_letGo (wpAny_pure ?_))
  -- the second
  refine wpAny_bind (wpAny_bind (wpAny_onRaise ?_))
  show wpAny _ _ (Builtin.SmallTypes.nextOrEnd (.ref i2)) _ _ _
  refine draw_item (((h2.extBut hs₁.extBut D.i2z).extBut hs₂.extBut D.i12.symm).extBut hs₃.extBut D.TOi2.symm) (((hl2.extBut hs₁.extBut D.l2z).extBut hs₂.extBut D.l2i1).extBut hs₃.extBut D.l2TO) hy fun h₄ h2₄ hs₄ => ?_
  have hTO₄ : IsPair h₄ TO x b := hs₄.extBut _ _ D.TOi2 hTO₃
  refine wpAny_bind (wpAny_seqItems hTO₄ rfl ?_)
  refine wpAny_bind (wpAny_updateSeq_pair hTO₄ fun h₅ hTO₅ hs₅ => ?_)
  replace hTO₅ : IsPair h₅ TO x y := hTO₅
  refine wpAny_bind (wpAny_letGo (wpAny_pure (wpAny_pure ?_)))
  -- the new pair
  refine wpAny_bind (wpAny_seqItems hTO₅ rfl ?_)
  refine wpAny_bind (wpAny_newTuple ?_)
  have hsz : h₅.objs.size = s.heap.objs.size := by rw [hs₅.1, hs₄.1, hs₃.1, hs₂.1, hs₁.1]
  have hz₅ : ZS h₅ z TI TO .ellipsis := hs₅.extBut _ _ D.TOz.symm (hs₄.extBut _ _ D.i2z.symm (hs₃.extBut _ _ D.TOz.symm (hs₂.extBut _ _ D.i1z.symm hz₁)))
  have hk₅ : ∀ c o, c ≠ z → c ≠ TO → c ≠ i1 → c ≠ i2 → s.heap.get? c = some o → h₅.get? c = some o := fun c o c1 c2 c3 c4 e => hs₅.extBut _ _ c2 (hs₄.extBut _ _ c4 (hs₃.extBut _ _ c2 (hs₂.extBut _ _ c3 (hs₁.extBut _ _ c1 e))))
  have h1₅ : h₅.IsTupleIter i1 l1 (k1 + 1) := ((h1₂.extBut hs₃.extBut D.TOi1.symm).extBut hs₄.extBut D.i12).extBut hs₅.extBut D.TOi1.symm
  have h2₅ : h₅.IsTupleIter i2 l2 (k2 + 1) := h2₄.extBut hs₅.extBut D.TOi2.symm
  have hzlt : z < h₅.objs.size := Heap.lt_size hz₅
  show wpAny _ _ (Builtin.SmallTypes.ownedTupleHandOut (.ref z) (.ref h₅.objs.size) >>= _) _ _ _
  refine wpAny_bind ?_
  unfold Builtin.SmallTypes.ownedTupleHandOut
  have hz₆ : ZS (h₅.push { cls := .type "tuple", data := .seq #[x, y] }) z TI TO .ellipsis := Heap.get?_push_of_some _ hz₅
  refine wpAny_bind (wpAny_setField_rec hz₆ (by simp) fun h₇ hz₇ hs₇ => ?_)
  replace hz₇ : ZS h₇ z TI TO (rawInt h₅.objs.size) := hz₇
  refine wpAny_setField_rec hz₇ (by simp) fun h₈ hz₈ hs₈ => ?_
  replace hz₈ : ZS h₈ z TI TO (rawInt h₅.objs.size) := hz₈
  have up : ∀ c o, c ≠ z → h₅.get? c = some o → h₈.get? c = some o := fun c o c1 e => hs₈.extBut _ _ c1 (hs₇.extBut _ _ c1 (Heap.get?_push_of_some _ e))
  have hT₈ : IsPair h₈ h₅.objs.size x y := hs₈.extBut _ _ (Nat.ne_of_gt hzlt) (hs₇.extBut _ _ (Nat.ne_of_gt hzlt) (Heap.get?_push_size _ rfl))
  rw [hsz] at hz₈ hT₈
  refine wpAny_pure ⟨_, rfl, ?_⟩
  show Q (.ref h₅.objs.size) _
  rw [hsz]
  exact hQ h₈ hz₈ (up _ _ D.TOz hTO₅) (h1₅.at fun o e => up _ o D.i1z e) (h2₅.at fun o e => up _ o D.i2z e) hT₈ fun c o c1 c2 c3 c4 e => up c o c1 (hk₅ c o c1 c2 c3 c4 e)
theorem zs_end {z TI TO i1 i2 l1 l2 : Addr} {k1 k2 : Nat} {xs ys : Array Value} {a b : Value} {Q : Fin → Shared → Prop} (hh : A.handled = none) (D : ZipApart z TI TO i1 i2 l1 l2)
    (hz : ZS s.heap z TI TO .none) (hTI : IsPair s.heap TI (.ref i1) (.ref i2)) (hTO : IsPair s.heap TO a b) (h1 : s.heap.IsTupleIter i1 l1 k1) (h2 : s.heap.IsTupleIter i2 l2 k2)
    (hl1 : s.heap.IsTuple l1 xs) (hl2 : s.heap.IsTuple l2 ys) (hx : xs[k1]? = none) (hy : ys[k2]? = none)
    (hE : ∀ h' e, (∀ c o, c ≠ z → c ≠ TO → c ≠ i1 → c ≠ i2 → s.heap.get? c = some o → h'.get? c = some o) → (∃ o, h'.get? e = some o ∧ o.cls = .type "StopIteration") → E (.ref e) { s with heap := h' }) :
    wpAny (model prog w) A (Builtin.«zip.__next__» ⟨[.ref z], []⟩) Q E s := by
  show wpAny _ _ (field (.ref z) 2 >>= _) _ _ _
  refine wpAny_bind (wpAny_field hz rfl (x := .bool true) rfl ?_)
  show wpAny _ _ (field (.ref z) 3 >>= _) _ _ _
  refine wpAny_bind (wpAny_field hz rfl (x := .ref TI) rfl ?_)
  refine wpAny_bind (wpAny_seqItems hTI rfl ?_)
  show wpAny _ _ (Builtin.SmallTypes.ownedTupleIsFree (.ref z) >>= _) _ _ _
  refine wpAny_bind ?_
  unfold Builtin.SmallTypes.ownedTupleIsFree
  refine wpAny_bind (wpAny_field hz rfl (x := .none) rfl (wpAny_pure ?_))
  simp only [if_true]
  refine wpAny_bind (wpAny_rule ?_)
  refine wpAny_bind (wpAny_field hz rfl (x := .ref TO) rfl ?_)
  refine wpAny_bind (wpAny_setField_rec hz (by simp) fun h₁ hz₁ hs₁ => ?_)
  replace hz₁ : ZS h₁ z TI TO .ellipsis := hz₁
  refine wpAny_bind ?_
  simp only [List.zipIdx_cons, List.zipIdx_nil, List.forIn_cons, List.forIn_nil]
  refine wpAny_bind (wpAny_bind (wpAny_onRaise ?_))
  show wpAny _ _ (Builtin.SmallTypes.nextOrEnd (.ref i1)) _ _ _
  refine draw_end hh (h1.extBut hs₁.extBut D.i1z) (hl1.extBut hs₁.extBut D.l1z) hx fun h₂ hs₂ => ?_
  have hz₂ : ZS h₂ z TI TO .ellipsis := hs₂ _ _ D.i1z.symm hz₁
  refine wpAny_bind (wpAny_setField_rec hz₂ (by simp) fun h₃ _ hs₃ => ?_)
  refine wpAny_bind ?_
  show wpAny _ _ (_ >>= _) _ _ _
  refine wpAny_bind ?_
  simp only [List.drop_succ_cons, List.drop_zero, List.zipIdx_cons, List.zipIdx_nil, List.forIn_cons, List.forIn_nil]
  have h2₃ : h₃.IsTupleIter i2 l2 k2 := ((h2.extBut hs₁.extBut D.i2z).extBut hs₂ D.i12.symm).extBut hs₃.extBut D.i2z
  have hl2₃ : h₃.IsTuple l2 ys := ((hl2.extBut hs₁.extBut D.l2z).extBut hs₂ D.l2i1).extBut hs₃.extBut D.l2z
  refine wpAny_bind (wpAny_bind (draw_end hh h2₃ hl2₃ hy fun h₄ hs₄ => ?_))
  refine wpAny_pure (wpAny_pure (wpAny_bind (wpAny_rule ?_)))
  unfold Builtin.SmallTypes.stopIteration
  refine wpAny_bind ?_
  simp only [newExc, newTuple]
  refine wpAny_bind (wpAny_newObj_type ?_ (by size_fits))
  refine wpAny_bind (m := firstArgMember _ _) (wpAny_of_eq (a := Value.none) (by first | rfl | (simp only [firstArgMember]; rfl)) ?_)
  refine wpAny_newObj_type ?_ (by size_fits)
  simp only [raiseNew]
  refine wpAny_bind (wpAny_handled ?_)
  rw [hh]
  refine wpAny_bind (wpAny_pure (wpAny_throw ?_))
  exact hE _ _ (fun c o c1 c2 c3 c4 e => Heap.get?_push_of_some _ (Heap.get?_push_of_some _ (hs₄ _ _ c4 (hs₃.extBut _ _ c1 (hs₂ _ _ c3 (hs₁.extBut _ _ c1 e)))))) ⟨_, Heap.get?_push_size _ rfl, rfl⟩
theorem next_zs_item {z TI TO i1 i2 l1 l2 : Addr} {k1 k2 : Nat} {xs ys : Array Value} {x y a b : Value} {Q : Option Value → Shared → Prop} (D : ZipApart z TI TO i1 i2 l1 l2)
    (hz : ZS s.heap z TI TO .none) (hTI : IsPair s.heap TI (.ref i1) (.ref i2)) (hTO : IsPair s.heap TO a b) (h1 : s.heap.IsTupleIter i1 l1 k1) (h2 : s.heap.IsTupleIter i2 l2 k2)
    (hl1 : s.heap.IsTuple l1 xs) (hl2 : s.heap.IsTuple l2 ys) (hx : xs[k1]? = some x) (hy : ys[k2]? = some y)
    (hQ : ∀ h', ZS h' z TI TO (rawInt s.heap.objs.size) → IsPair h' TO x y → h'.IsTupleIter i1 l1 (k1 + 1) → h'.IsTupleIter i2 l2 (k2 + 1) → IsPair h' s.heap.objs.size x y →
      (∀ c o, c ≠ z → c ≠ TO → c ≠ i1 → c ≠ i2 → s.heap.get? c = some o → h'.get? c = some o) → Q (some (.ref s.heap.objs.size)) { s with heap := h' }) : wpAny (model prog w) A (pyNext (.ref z)) Q E s := by
  have hT : s.TypeIs (.ref z) "zip" := ⟨_, hz, rfl⟩
  unfold pyNext
  exact wpAny_bind (wpAny_attempt (wpAny_callSpecial?_slot (name := Str.ofString "__next__") hT PySem.F.slot_zip_next
    (wpAny_call_entry PySem.F.slot_zip_next hT PySem.F.entry_zip_next (zs_item D hz hTI hTO h1 h2 hl1 hl2 hx hy fun h' a1 a2 a3 a4 a5 a6 => wpAny_pure (hQ h' a1 a2 a3 a4 a5 a6)) (PySem.F.args_zip_next_1 _))))
theorem next_zs_end {z TI TO i1 i2 l1 l2 : Addr} {k1 k2 : Nat} {xs ys : Array Value} {a b : Value} {Q : Option Value → Shared → Prop} (hh : A.handled = none) (D : ZipApart z TI TO i1 i2 l1 l2)
    (hz : ZS s.heap z TI TO .none) (hTI : IsPair s.heap TI (.ref i1) (.ref i2)) (hTO : IsPair s.heap TO a b) (h1 : s.heap.IsTupleIter i1 l1 k1) (h2 : s.heap.IsTupleIter i2 l2 k2)
    (hl1 : s.heap.IsTuple l1 xs) (hl2 : s.heap.IsTuple l2 ys) (hx : xs[k1]? = none) (hy : ys[k2]? = none)
    (hQ : ∀ h', (∀ c o, c ≠ z → c ≠ TO → c ≠ i1 → c ≠ i2 → s.heap.get? c = some o → h'.get? c = some o) → Q none { s with heap := h' }) : wpAny (model prog w) A (pyNext (.ref z)) Q E s := by
  have hT : s.TypeIs (.ref z) "zip" := ⟨_, hz, rfl⟩
  unfold pyNext
  refine wpAny_bind (wpAny_attempt (wpAny_callSpecial?_slot (name := Str.ofString "__next__") hT PySem.F.slot_zip_next
    (wpAny_call_entry PySem.F.slot_zip_next hT PySem.F.entry_zip_next (zs_end hh D hz hTI hTO h1 h2 hl1 hl2 hx hy fun h' e hk he => ?_) (PySem.F.args_zip_next_1 _))))
  obtain ⟨o, ho, hc⟩ := he
  refine wpAny_bind (wpAny_isInstance (T := "StopIteration") (b := true) ⟨o, ho, hc⟩ isSubtype_stop ?_)
  exact wpAny_pure (hQ _ hk)
theorem go_zs {elts : List Expr} {x1 : Nat} {pos : Pos} {z TI TO T : Addr} {Q : Unit → Shared → Prop} (hz : ZS s.heap z TI TO (rawInt T)) (hQ : ∀ h', ZS h' z TI TO .none → Heap.SameBut z s.heap h' → Q () { s with heap := h' }) :
    wpAny (model prog w) A (letOwnedTupleGo (.Tuple elts x1 pos) (.ref z) (.ref T)) Q E s := by
  unfold letOwnedTupleGo
  refine wpAny_bind (wpAny_load hz ?_)
  show wpAny _ _ (if (["enumerate", "zip", "dict_itemiterator", "dict_reverseitemiterator", "odict_iterator", "itertools.zip_longest", "itertools.pairwise"].contains "zip" &&
      (#[rawInt T, .bool false, .bool true, .ref TI, .ref TO] : Array Value)[0]? == some (rawInt T)) = true then _ else _) Q E s
  rw [if_pos (by simp)]
  refine wpAny_bind (wpAny_rule ?_)
  show wpAny _ _ (setField (.ref z) 0 .none) Q E s
  exact wpAny_setField_rec hz (by simp) fun h' hz' hs' => hQ h' hz' hs'
theorem iter_zs {z TI TO : Addr} {f0 : Value} {Q : Value → Shared → Prop} (hz : ZS s.heap z TI TO f0) (h : Q (.ref z) s) : wpAny (model prog w) A (pyIter (.ref z)) Q E s := by
  have hT : s.TypeIs (.ref z) "zip" := ⟨_, hz, rfl⟩
  refine wpAny_pyIter_slot hT PySem.F.slot_zip_iter (wpAny_call_entry PySem.F.slot_zip_iter hT PySem.F.entry_zip_iter ?_ (PySem.F.args_zip_iter_1 _))
  show wpAny _ _ (ret (.ref z)) _ _ s
  exact wpAny_pure ⟨_, rfl, "zip", _, hT, PySem.F.slot_zip_next.lookup, h⟩
end

/-! ### the walk -/
/-- two tuples of one length, in new pairs -/
def ItzS (K : PySem.W.Frag) (a b : Addr) : L2.It :=
  ⟨(RZ.ItzT K a b).go, (RZ.ItzT K a b).yld, fun i H => ∃ xs ys : List V, SqT K H a xs ∧ SqT K H b ys ∧ xs.length ≤ i ∧ ys.length ≤ i⟩
theorem turn_zs {P : Program} {w : World} {K : PySem.W.Frag} {elts : List Expr} {kk : Nat} {tpos : Pos} {a b z TI TO i1 i2 : Addr} (D : ZipApart z TI TO i1 i2 a b) :
    Turn P w K (.Tuple elts kk tpos) (ItzS K a b) [z, TI, TO, i1, i2] z (fun i h => ZS h z TI TO .none ∧ IsPair h TI (.ref i1) (.ref i2) ∧ (∃ x y, IsPair h TO x y) ∧ h.IsTupleIter i1 a i ∧ h.IsTupleIter i2 b i) where
  mem := by simp
  obj := fun i h st c hc => by
    obtain ⟨hz, hTI, ⟨x, y, hTO⟩, ⟨o1, e1, _, d1⟩, ⟨o2, e2, _, d2⟩⟩ := st
    have e' : c = z ∨ c = TI ∨ c = TO ∨ c = i1 ∨ c = i2 := by simpa using hc
    rcases e' with q | q | q | q | q <;> subst q
    · exact ⟨_, hz, fun v q => nomatch q⟩
    · exact ⟨_, hTI, fun v q => nomatch q⟩
    · exact ⟨_, hTO, fun v q => nomatch q⟩
    · exact ⟨o1, e1, fun v q => by rw [d1] at q; cases q⟩
    · exact ⟨o2, e2, fun v q => by rw [d2] at q; cases q⟩
  keep := fun i h h' st k => by
    obtain ⟨hz, hTI, ⟨x, y, hTO⟩, h1, h2⟩ := st
    exact ⟨k z (by simp) _ hz, k TI (by simp) _ hTI, ⟨x, y, k TO (by simp) _ hTO⟩, h1.at fun o q => k i1 (by simp) o q, h2.at fun o q => k i2 (by simp) o q⟩
  item := by
    intro X hP hw hK hc i pins s σ H E I hf st hg
    subst hP hw hK
    obtain ⟨hz, hTI, ⟨x0, y0, hTO⟩, h1, h2⟩ := st
    obtain ⟨xs, ys, x, y, hqx, hqy, hx, hy⟩ := hg
    obtain ⟨its, rv, p, _⟩ := I.tuple hqx
    obtain ⟨its2, rv2, p2, _⟩ := I.tuple hqy
    obtain ⟨u, hu, ru⟩ := rv.get hx
    obtain ⟨u2, hu2, ru2⟩ := rv2.get hy
    have hzl : z < s.heap.objs.size := Heap.lt_size hz
    refine next_zs_item D hz hTI hTO h1 h2 p p2 (x := u) (y := u2) (by simpa using hu) (by simpa using hu2) fun h' z' TO' h1' h2' hT hk => ?_
    refine ⟨_, rfl, go_zs (s := { s with heap := h' }) z' fun h'' z'' sb => ?_⟩
    have hT2 : h''.get? s.heap.objs.size = some { cls := .type "tuple", data := .seq #[u, u2] } := (sb.2 _ (Nat.ne_of_gt hzl)).trans hT
    have new : ObjOk X.prog X.w (upd H s.heap.objs.size (.tup [x, y])) h'' s.heap.objs.size (.tup [x, y]) := ⟨by show 2 ≤ sizeLine; decide, [u, u2], .cons ru (.cons ru2 .nil), ⟨_, hT2, rfl, _, rfl⟩⟩
    have far : ∀ c o, c ∉ [z, TI, TO, i1, i2] → s.heap.get? c = some o → h''.get? c = some o := fun c o hb q => by
      simp only [List.mem_cons, List.not_mem_nil, or_false, not_or] at hb
      obtain ⟨b1, b2, b3, b4, b5⟩ := hb
      exact (sb.2 c b1).trans (hk c o b1 b3 b4 b5 q)
    have I1 : Inv X pins σ (upd H s.heap.objs.size (.tup [x, y])) { s with heap := h'' } := I.turnedNew (t' := s.toks) (ch := [z, TI, TO, i1, i2]) far hf (Nat.le_refl _) new
    refine ⟨.ref s.heap.objs.size, _, I1, rfl, ⟨_, x, y, rfl, I.hok.fresh (Nat.le_refl _), rfl, fun l hl => by rw [I.tuple_inj hl hqx]; exact hx, fun l hl => by rw [I.tuple_inj hl hqy]; exact hy⟩, ⟨z'', ?_, ⟨u, u2, ?_⟩, ?_, ?_⟩, fun c hcm => ?_⟩
    · exact (sb.2 _ D.TIz).trans (hk _ _ D.TIz D.TITO D.TIi1 D.TIi2 hTI)
    · exact (sb.2 _ D.TOz).trans TO'
    · exact h1'.at fun o q => (sb.2 _ D.i1z).trans q
    · exact h2'.at fun o q => (sb.2 _ D.i2z).trans q
    · have hlt : c < s.heap.objs.size := by
        obtain ⟨o1, e1, _⟩ := h1
        obtain ⟨o2, e2, _⟩ := h2
        have e' : c = z ∨ c = TI ∨ c = TO ∨ c = i1 ∨ c = i2 := by simpa using hcm
        rcases e' with q | q | q | q | q <;> subst q
        · exact hzl
        · exact Heap.lt_size hTI
        · exact Heap.lt_size hTO
        · exact Heap.lt_size e1
        · exact Heap.lt_size e2
      rw [upd_ne (Nat.ne_of_lt hlt)]
      exact (hf c hcm).1
  done := by
    intro X hP hw hK hc i pins s σ H E I hf st hg
    subst hP hw hK
    obtain ⟨hz, hTI, ⟨x0, y0, hTO⟩, h1, h2⟩ := st
    obtain ⟨xs, ys, hqx, hqy, e1, e2⟩ := hg
    obtain ⟨its, rv, p, _⟩ := I.tuple hqx
    obtain ⟨its2, rv2, p2, _⟩ := I.tuple hqy
    have l1 := rv.length
    have l2 := rv2.length
    refine next_zs_end (I.ok.hd hc) D hz hTI hTO h1 h2 p p2 (by simp; omega) (by simp; omega) fun h' hk => ⟨rfl, I.turnedL (t' := s.toks) (ch := [z, TI, TO, i1, i2]) (fun c o hb q => ?_) hf⟩
    simp only [List.mem_cons, List.not_mem_nil, or_false, not_or] at hb
    obtain ⟨b1, b2, b3, b4, b5⟩ := hb
    exact hk c o b1 b3 b4 b5 q
  self := fun A i s Q E st h => iter_zs st.1 h

/-! ### the call -/
def kwS : List (Str × Value) := [(Str.ofString "strict", .bool true)]
theorem zs_typeCall (a b : Value) : checkTypeCall "zip" ⟨[a, b], kwS⟩ = pure () := by kernel_rfl
theorem zs_newCall (a b : Value) : checkBuiltinCall "zip.__new__" ⟨[.type "zip", a, b], kwS⟩ = pure () := by kernel_rfl
theorem zs_initArgs (a b c : Value) : argsOk "object.__init__" ⟨[a, b, c], kwS⟩ := by
  unfold argsOk
  rw [signature?_of (id := "object.__init__") (n := ['_', '_', 't', 'i', 'n', 'i', '_', '_']) (o := ['t', 'c', 'e', 'j', 'b', 'o']) (by kernel_rfl) PySem.F.owner_object]
  kernel_rfl
section
variable {prog : Program} {w : World} {A : Around} {E : Value → Shared → Prop} {s : Shared}
abbrev zsH1 (h : Heap) (l1 : Addr) : Heap := h.push { cls := .type "tuple_iterator", data := .fields #[.ref l1, .int 0 0] }
abbrev zsH2 (h : Heap) (l1 l2 : Addr) : Heap := (zsH1 h l1).push { cls := .type "tuple_iterator", data := .fields #[.ref l2, .int 0 0] }
abbrev zsH3 (h : Heap) (l1 l2 : Addr) : Heap := (zsH2 h l1 l2).push { cls := .type "tuple", data := .seq #[.ref h.objs.size, .ref (zsH1 h l1).objs.size] }
abbrev zsH4 (h : Heap) (l1 l2 : Addr) : Heap := (zsH3 h l1 l2).push { cls := .type "tuple", data := .seq #[.none, .none] }
abbrev zsH5 (h : Heap) (l1 l2 : Addr) : Heap := (zsH4 h l1 l2).push { cls := .type "zip", data := .fields #[.none, .bool false, .bool true, .ref (zsH2 h l1 l2).objs.size, .ref (zsH3 h l1 l2).objs.size] }
theorem zs_new (l1 l2 : Addr) (xs ys : Array Value) : Meets (Builtin.«zip.__new__» ⟨[.type "zip", .ref l1, .ref l2], kwS⟩) (fun _ R s => s.heap.IsTuple l1 xs ∧ s.heap.IsTuple l2 ys ∧ R (.ok (.ret (.ref (zsH4 s.heap l1 l2).objs.size))) { s with heap := zsH5 s.heap l1 l2 }) :=
  .of_wp fun prog w A R s h => by
    obtain ⟨hp, g, d, tk, os⟩ := s
    obtain ⟨hl1, hl2, h⟩ := h
    have hsub := PySem.sub_zip
    have hL1 : Heap.IsTuple (Shared.heap ⟨hp, g, d, tk, os⟩) l1 xs := hl1
    have hL2 : Heap.IsTuple (Shared.heap ⟨hp.push { cls := .type "tuple_iterator", data := .fields #[.ref l1, .int 0 0] }, g, d, tk, os⟩) l2 ys := Heap.IsTuple.push hl2 _
    unfold kwS
    wp_walk using wpAny_pyIter_tuple hL1, wpAny_pyIter_tuple hL2
    exact ⟨_, rfl, h⟩
/-- a built-in type called, with keywords -/
theorem callTypeK {T newId : String} {Bn : Builtin} {args : List Value} {kw : List (Str × Value)} {S : PySem.Spec} {Q : Value → Shared → Prop} (ft : TypeCalled T newId "object.__init__") (hne : (some newId != some "object.__new__") = true)
    (hct : checkTypeCall T ⟨args, kw⟩ = pure ()) (hcn : checkBuiltinCall newId ⟨.type T :: args, kw⟩ = pure ()) (hok : ∀ obj, argsOk "object.__init__" ⟨obj :: args, kw⟩) (entryN : entryFor table newId = some Bn) (g : Meets (Bn ⟨.type T :: args, kw⟩) S) (ha : args ≠ [])
    (h : S A.in1 (wants (fun obj s₁ => s₁.TypeIs obj T ∧ Q obj s₁) E) s) : wpAny (model prog w) A (call (.type T) args kw) Q E s := by
  obtain ⟨c, tl, hmro⟩ := ft.mro
  have hmade := ft.made
  have hsub := ft.sub
  refine wpAny_call (codeAny_of_tree ?_)
  show wpAny _ _ (callAny (.type T) _) _ _ _
  refine wpAny_pure ⟨Code.quiet_builtin _ (by decide +kernel), codeAny_builtin PySem.F.entry_type_call ?_⟩
  rw [Around.under_plain (weight_type_call_type T args kw) (units_type_call_type T args kw)]
  have h1 := ft.notType
  have h2 := ft.canCreate
  repeat (any_goals (first | assumption | wp_step))
  refine codeAny_mono (codeAny_call_builtin ft.plain entryN (wpAny_of_eq hcn (g prog w A.in1 _ s h))) fun r s₁ hr => ?_
  cases r with
  | error e => exact hr
  | ok fl =>
    cases fl with
    | ret obj =>
      obtain ⟨hT, hq⟩ := hr
      have hli := ft.init.lookup
      have hbi := ft.init.bind obj
      repeat (any_goals (first | assumption | wp_step))
      have gi : Meets (Builtin.«object.__init__» ⟨obj :: args, kw⟩) (fun _ R s => s.TypeIs obj T ∧ R (.ok (.ret .none)) s) := by
        refine Meets.of_wp fun prog w A R s hs => ?_
        obtain ⟨hT, hq⟩ := hs
        cases args with
        | nil => exact absurd rfl ha
        | cons a rest =>
          repeat (any_goals (first | assumption | wp_step))
          exact ⟨_, rfl, hq⟩
      refine codeAny_mono (codeAny_call_builtin ft.init.plain PySem.F.entry_object_init (ft.init.check _ _ _ _ _ _ _ _ hT (hok obj) (gi prog w A.in1 (wants (fun r s₂ => r = .none ∧ Q obj s₂) E) s₁ ⟨hT, rfl, hq⟩))) fun r₂ s₂ hr₂ => ?_
      cases r₂ with
      | error e => exact hr₂
      | ok fl₂ =>
        cases fl₂ with
        | ret r =>
          obtain ⟨rfl, hq⟩ := hr₂
          repeat (any_goals (first | assumption | wp_step))
        | _ => exact hr₂.elim
    | _ => exact hr.elim
theorem call_zs {l1 l2 : Addr} {xs ys : Array Value} {Q : Value → Shared → Prop} (hl1 : s.heap.IsTuple l1 xs) (hl2 : s.heap.IsTuple l2 ys)
    (h : ∀ h', ZS h' (s.heap.objs.size + 4) (s.heap.objs.size + 2) (s.heap.objs.size + 3) .none → IsPair h' (s.heap.objs.size + 2) (.ref s.heap.objs.size) (.ref (s.heap.objs.size + 1)) →
      IsPair h' (s.heap.objs.size + 3) .none .none → h'.IsTupleIter s.heap.objs.size l1 0 → h'.IsTupleIter (s.heap.objs.size + 1) l2 0 → (∀ c o, s.heap.get? c = some o → h'.get? c = some o) → Q (.ref (s.heap.objs.size + 4)) { s with heap := h' }) :
    wpAny (model prog w) A (call (.type "zip") [.ref l1, .ref l2] kwS) Q E s := by
  refine callTypeK PySem.F.called_zip (by decide) (zs_typeCall _ _) (zs_newCall _ _) (fun obj => zs_initArgs obj _ _) PySem.F.entry_zip_new (zs_new l1 l2 xs ys) (by simp) ⟨hl1, hl2, ?_⟩
  have z1 : (zsH1 s.heap l1).objs.size = s.heap.objs.size + 1 := Heap.size_push ..
  have z2 : (zsH2 s.heap l1 l2).objs.size = s.heap.objs.size + 2 := by rw [Heap.size_push, z1]
  have z3 : (zsH3 s.heap l1 l2).objs.size = s.heap.objs.size + 3 := by rw [Heap.size_push, z2]
  have z4 : (zsH4 s.heap l1 l2).objs.size = s.heap.objs.size + 4 := by rw [Heap.size_push, z3]
  have g5 : (zsH5 s.heap l1 l2).get? (zsH4 s.heap l1 l2).objs.size = some _ := Heap.get?_push_size _ rfl
  have g4 : (zsH5 s.heap l1 l2).get? (zsH3 s.heap l1 l2).objs.size = some _ := Heap.get?_push_of_some _ (Heap.get?_push_size _ rfl)
  have g3 : (zsH5 s.heap l1 l2).get? (zsH2 s.heap l1 l2).objs.size = some _ := Heap.get?_push_of_some _ (Heap.get?_push_of_some _ (Heap.get?_push_size _ rfl))
  have g2 : (zsH5 s.heap l1 l2).get? (zsH1 s.heap l1).objs.size = some _ := Heap.get?_push_of_some _ (Heap.get?_push_of_some _ (Heap.get?_push_of_some _ (Heap.get?_push_size _ rfl)))
  have g1 : (zsH5 s.heap l1 l2).get? s.heap.objs.size = some _ := Heap.get?_push_of_some _ (Heap.get?_push_of_some _ (Heap.get?_push_of_some _ (Heap.get?_push_of_some _ (Heap.get?_push_size _ rfl))))
  show _ ∧ _
  rw [z2, z3, z4] at g5
  rw [z1, z2] at g3
  rw [z3] at g4
  rw [z1] at g2
  rw [z4]
  exact ⟨⟨_, g5, rfl⟩, h _ g5 g3 g4 ⟨_, g1, rfl, rfl⟩ ⟨_, g2, rfl, rfl⟩ fun c o x => Heap.get?_push_of_some _ (Heap.get?_push_of_some _ (Heap.get?_push_of_some _ (Heap.get?_push_of_some _ (Heap.get?_push_of_some _ x))))⟩
theorem callWith_typeK {M : Model} {pos : Pos} {T : String} {args : List (Bool × Sem Value)} {kws : List (Option Str × Sem Value)} {Q : Value → Shared → Prop} (hplain : args.any (·.1) = false) (hkw : kws.any (·.1.isNone) = false)
    (h : wpAny M A (evalArgs (.type T) true args kws) (fun a s₁ => wpAny M A (call (.type T) a.pos a.kw) Q E s₁) E s) : wpAny M A (callWith pos (.type T) [] args kws) Q E s := by
  unfold callWith
  refine wpAny_bind (wpAny_holding (wpAny_mono h (fun a s₁ h₁ => wpAny_bind (wpAny_standAt ?_)) fun _ _ x => x))
  simp only [hplain, hkw, Bool.or_false]
  refine wpAny_bind (wpAny_pure ?_)
  exact wpAny_bind (wpAny_mono h₁ (fun r s₂ hr => wpAny_bind (wpAny_holding (wpAny_point (wpAny_pure hr)))) fun _ _ x => x)
end
def iZs (K : PySem.W.Frag) (ta : TA) : TI := fun σ H R => ta σ H fun vs H1 => ∃ a b xs ys, vs = [.ref a, .ref b] ∧ SqT K H1 a xs ∧ SqT K H1 b ys ∧ R (ItzS K a b) H1
theorem pi_zs {X : Cx} {e e2 : Expr} {ta : TA} {p pos tpos pc kp : Pos} {kc : Nat} {elts : List Expr} {kk : Nat} (hg : Gl X "zip") (hm : X.mg "zip" = none) (ha : PA X [e, e2] ta)
    (hs : starEach [e, e2] X.env = (false, eval e X.env) :: starEach [e2] X.env) (hpl : (backTo pos (starEach [e2] X.env)).any (·.1) = false) :
    PI X (.Tuple elts kk tpos) (.Call (.Name "zip" p) [e, e2] [⟨some "strict", .Constant (.bool true) kc pc, kp⟩] pos) (iZs X.K ta) := by
  refine ⟨fun pins s σ H R I h => ?_⟩
  refine wpAny_Call_Name_kw (ld_blt I hg hm PyProof.Rows.boot_zip ?_)
  refine callWith_typeK (by rw [hs]; show (false || _) = false; exact hpl) rfl ?_
  have hA := ha.run pos pins s σ H _ I h
  rw [hs] at hA ⊢
  refine evalArgs_kwB rfl (thn hA fun us s1 ⟨vs, H1, I1, r1, q1⟩ => kws_cons (Constant_bool (kws_nil ?_)))
  obtain ⟨a, b, xs, ys, rfl, hqx, hqy, q⟩ := q1
  obtain ⟨u1, u2, rfl, c1, c2⟩ := vals2 r1
  cases c1
  cases c2
  obtain ⟨its, rv, p1, _⟩ := I1.tuple hqx
  obtain ⟨its2, rv2, p2, _⟩ := I1.tuple hqy
  obtain ⟨o1, ho1, _⟩ := id p1
  obtain ⟨o2, ho2, _⟩ := id p2
  refine call_zs (show s1.heap.IsTuple a its.toArray from p1) (show s1.heap.IsTuple b its2.toArray from p2) fun h' hz hTI hTO h1 h2 hk => iter_zs hz ?_
  have I2 : Inv X pins σ H1 { s1 with heap := h' } := I1.kept (t' := s1.toks) hk
  refine ⟨s1.heap.objs.size + 4, [s1.heap.objs.size + 4, s1.heap.objs.size + 2, s1.heap.objs.size + 3, s1.heap.objs.size, s1.heap.objs.size + 1], _, _, H1, rfl, I2, turn_zs (PySem.W.ktu_apart s1.heap.objs.size a b (Heap.lt_size ho1) (Heap.lt_size ho2)), ⟨hz, hTI, ⟨_, _, hTO⟩, h1, h2⟩, fun c hcm => ?_, q⟩
  have hle : s1.heap.objs.size ≤ c := by
    simp only [List.mem_cons, List.not_mem_nil, or_false] at hcm
    rcases hcm with z | z | z | z | z <;> rw [z] <;> first | exact Nat.le_refl _ | exact Nat.le_add_right _ _
  exact I1.fpOk hle (I1.hok.fresh hle)
theorem dlv_zs {K : PySem.W.Frag} {F : Hp} {a b : Addr} {vs ws : List V} {xs ys : List PyData} (hl : xs.length = ys.length) (h : TpAt F a vs) (h' : TpAt F b ws) (hd : DenAll K F vs xs) (hd' : DenAll K F ws ys) : Dlv K (ItzS K a b) (zipD xs ys) F := by
  intro F1 H1 e1 e2 i
  obtain ⟨k1, k2⟩ := dlv_zipT h h' hd hd' F1 H1 e1 e2 i
  refine ⟨k1, fun hi => ⟨vs, ws, ((h.mono e1).mono e2).sq, ((h'.mono e1).mono e2).sq, ?_, ?_⟩⟩
  · rw [hd.length]
    rcases zipD_len hi with z | z <;> omega
  · rw [hd'.length]
    rcases zipD_len hi with z | z <;> omega
section
variable {X : Cx} {Φ : Fs} {a b : Expr} {ea eb : E} {pos p : Pos}
theorem i_zips {elts : List Expr} {kk kc : Nat} {tpos pc kp : Pos} (hg : Gl X "zip") (hm : X.mg "zip" = none) (ha : PE X a (tE Φ X.K ea)) (hb : PE X b (tE Φ X.K eb)) (hs : starEach [a, b] X.env = (false, eval a X.env) :: starEach [b] X.env) (hs2 : starEach [b] X.env = (false, eval b X.env) :: starEach [] X.env) (hpl : (backTo pos (starEach [b] X.env)).any (·.1) = false) :
    PI X (.Tuple elts kk tpos) (.Call (.Name "zip" p) [a, b] [⟨some "strict", .Constant (.bool true) kc pc, kp⟩] pos) (tIt Φ X.K (.zips ea eb)) := PI.imp (pi_zs hg hm (pa_cons ha (pa_cons hb pa_nil hs2) hs) hs hpl) fun σ H Q h => by
  obtain ⟨F, S, st, A, xs, st', R, e, k⟩ := h
  rw [evIt] at e
  obtain ⟨⟨x, s1⟩, h1, e⟩ := bindE e
  obtain ⟨⟨y, s2⟩, h2, e⟩ := bindE e
  obtain ⟨ds, h3, e⟩ := bindE e
  obtain ⟨⟨us, ws⟩, h4, e⟩ := bindE e
  dsimp only at e
  split at e
  case isFalse => cases e
  rename_i hl
  cases e
  unfold zip2t at h4
  split at h4
  · cases h4
    refine two_dat R h1 h2 h3 fun v w F' H' A' t d1 d2 => ?_
    obtain ⟨a1, vs1, rfl, g1, g2⟩ := d1.tup_of
    obtain ⟨a2, vs2, rfl, g3, g4⟩ := d2.tup_of
    exact ⟨a1, a2, vs1, vs2, rfl, (g1.mono t.rel.same).sq, (g3.mono t.rel.same).sq, k _ _ _ _ t (dlv_zs hl g1 g3 g2 g4)⟩
  · cases h4
end
end Vm


set_option Elab.async false
set_option linter.all false
set_option maxRecDepth 100000
/-! Vm, part 16: targets; list comprehensions. -/
namespace Vm
open PySem PySem.Spec PyProof.Rows L2

/-! ### targets -/
mutual
def tgN : Tg → List Nat
  | .nm i => [i]
  | .tp ts => tgsN ts
def tgsN : Tgs → List Nat
  | .nil => []
  | .cons t ts => tgN t ++ tgsN ts
end
def tgsL : Tgs → Nat
  | .nil => 0
  | .cons _ ts => tgsL ts + 1
theorem asgs_len : ∀ {ts : Tgs} {xs : List PyData} {st st' : St}, asgs ts xs st = some st' → xs.length = tgsL ts
  | .nil, [], _, _, _ => rfl
  | .nil, _ :: _, _, _, h => by simp [asgs] at h
  | .cons _ _, [], _, _, h => by simp [asgs] at h
  | .cons t ts, x :: xs, st, st', h => by
    rw [asgs] at h
    obtain ⟨s, _, h2⟩ := bindE h
    rw [List.length_cons, asgs_len h2]
    rfl
/-- the state behind an assignment of names -/
structure Asd (K : PySem.W.Frag) (F H : Hp) (S : List Addr) (σ σ' : L2.St) (A : Nat → List Addr) (st' : St) (A' : Nat → List Addr) (ns : List Nat) : Prop where
  post : PostT K F H S σ σ' A st' F H A'
  len : σ'.length = σ.length
  off : ∀ j, j ∉ ns → σ'[j]? = σ[j]?
def gT (K : PySem.W.Frag) (tg : Tg) : TG := fun v σ H Q => ∃ F S st A x st', Rel K F H S σ st A ∧ Den K F v x ∧ asg tg x st = some st' ∧ ∀ σ' A', Asd K F H S σ σ' A st' A' (tgN tg) → Q σ' H
def gTs (K : PySem.W.Frag) (ts : Tgs) : TGs := fun vs σ H Q => ∃ F S st A xs st', Rel K F H S σ st A ∧ DenAll K F vs xs ∧ asgs ts xs st = some st' ∧ ∀ σ' A', Asd K F H S σ σ' A st' A' (tgsN ts) → Q σ' H
theorem PG.imp {X : Cx} {e : Expr} {t t' : TG} (h : PG X e t) (i : ∀ v σ H Q, t' v σ H Q → t v σ H Q) : PG X e t' := ⟨fun pins s σ H v u Q I r q => h.run pins s σ H v u Q I r (i v σ H Q q)⟩
theorem PGs.imp {X : Cx} {e : List Expr} {t t' : TGs} (h : PGs X e t) (i : ∀ v σ H Q, t' v σ H Q → t v σ H Q) : PGs X e t' := ⟨fun pins s σ H v u Q I r q => h.run pins s σ H v u Q I r (i v σ H Q q)⟩
section
variable {X : Cx} {pos : Pos}
theorem Rel.name {K : PySem.W.Frag} {F H : Hp} {S : List Addr} {σ : L2.St} {st : St} {A : Nat → List Addr} {i : Nat} {v : V} {x : PyData} (R : Rel K F H S σ st A) (hi : i < st.ρ.length) (hd : Den K F v x) :
    Asd K F H S σ (σ.set i (some v)) A (st.set i (some (.d x))) (upA A i []) [i] :=
  ⟨⟨Step.refl.weak fun b h => ow_up h, R.slot hi rfl ⟨rfl, hd⟩ (List.getElem?_set_self (Nat.lt_of_lt_of_le hi R.len)) (fun j hj => List.getElem?_set_ne (Ne.symm hj)) List.nodup_nil (fun _ z => nomatch z)⟩,
    List.length_set .., fun j hj => List.getElem?_set_ne (fun z => hj (by simp [z]))⟩
theorem g_nm {i : Nat} {x : Str} (hN : X.N.Nodup) (hi : X.N[i]? = some x) (hx : Loc X.env.scope x) (hf : X.fn x = true ∨ X.env.scope.names.lookup x = some .local) : PG X (.Name x pos) (gT X.K (.nm i)) := PG.imp (pg_name hN hi hx hf) fun v σ H Q h => by
  obtain ⟨F, S, st, A, x, st', R, hd, e, k⟩ := h
  rw [asg] at e
  split at e
  · rename_i hl
    cases e
    exact k _ _ (R.name hl hd)
  · cases e
theorem g_tp {es : List Expr} {k : Nat} {ts : Tgs} (hc : X.calm = true) (h : PGs X es (gTs X.K ts)) (hn : (assignEach es X.env).length = tgsL ts) (hst : (assignEach es X.env).findIdx? (·.1) = none) : PG X (.Tuple es k pos) (gT X.K (.tp ts)) := PG.imp (pg_tup hc h hn hst) fun v σ H Q h => by
  obtain ⟨F, S, st, A, x, st', R, hd, e, k⟩ := h
  cases x with
  | tuple xs =>
    obtain ⟨a, vs, rfl, g1, g2⟩ := hd.tup_of
    refine ⟨a, vs, rfl, (g1.mono R.same).sq, ?_, F, S, st, A, xs, st', R, g2, e, fun σ' A' p => k _ _ p⟩
    rw [g2.length, asgs_len e]
  | none => cases e
  | bool z => cases e
  | int z => cases e
  | str z => cases e
  | dict z => cases e
  | list z => cases e
theorem gs_nil : PGs X [] (gTs X.K .nil) := PGs.imp pgs_nil fun v σ H Q h => by
  obtain ⟨F, S, st, A, xs, st', R, hd, e, k⟩ := h
  cases xs with
  | nil =>
    cases hd
    rw [asgs] at e
    cases e
    exact ⟨rfl, k σ A ⟨.here R, rfl, fun _ _ => rfl⟩⟩
  | cons x xs => simp [asgs] at e
theorem gs_cons {e : Expr} {es : List Expr} {t : Tg} {ts : Tgs} (h1 : PG X e (gT X.K t)) (h2 : PGs X es (gTs X.K ts)) (hs : (assignEach (e :: es) X.env).map (·.2) = assign e X.env :: (assignEach es X.env).map (·.2)) : PGs X (e :: es) (gTs X.K (.cons t ts)) := PGs.imp (pgs_cons h1 h2 hs) fun v σ H Q h => by
  obtain ⟨F, S, st, A, xs, st', R, hd, e, k⟩ := h
  cases xs with
  | nil => simp [asgs] at e
  | cons x xs =>
    rw [asgs] at e
    obtain ⟨s1, e1, e2⟩ := bindE e
    cases hd with
    | cons d ds =>
      refine ⟨_, _, rfl, F, S, st, A, x, s1, R, d, e1, fun σ1 A1 p => ⟨F, S, s1, A1, xs, st', p.post.rel, ds, e2, fun σ2 A2 q => k σ2 A2 ⟨p.post.trans q.post, q.len.trans p.len, fun j hj => ?_⟩⟩⟩
      unfold tgsN at hj
      rw [List.mem_append, not_or] at hj
      exact (q.off j hj.2).trans (p.off j hj.1)
end

/-! ### slots forgotten -/
def clA (own : List Nat) (A : Nat → List Addr) : Nat → List Addr := fun j => if j ∈ own then [] else A j
theorem clA_sub {own : List Nat} {A : Nat → List Addr} {S : List Addr} {b : Addr} (h : Ow S (clA own A) b) : Ow S A b := by
  rcases h with h | ⟨j, h⟩
  · exact .inl h
  · unfold clA at h
    split at h
    · cases h
    · exact .inr ⟨j, h⟩
theorem clr_len : ∀ (own : List Nat) (st : St), (clr own st).ρ.length = st.ρ.length
  | [], _ => rfl
  | v :: vs, st => by
    show ((clr vs st).ρ.set v none).length = _
    rw [List.length_set, clr_len vs st]
theorem clr_src : ∀ (own : List Nat) (st : St), (clr own st).src = st.src
  | [], _ => rfl
  | v :: vs, st => clr_src vs st
theorem clr_in : ∀ {own : List Nat} {st : St} {j : Nat} {o : O}, (clr own st).ρ[j]? = some (some o) → j ∉ own ∧ st.ρ[j]? = some (some o)
  | [], _, _, _, h => ⟨by simp, h⟩
  | v :: vs, st, j, o, h => by
    have h : ((clr vs st).ρ.set v none)[j]? = some (some o) := h
    by_cases q : v = j
    · subst q
      by_cases hv : v < (clr vs st).ρ.length
      · rw [List.getElem?_set_self hv] at h; cases h
      · rw [List.getElem?_eq_none (by rw [List.length_set]; omega)] at h; cases h
    · rw [List.getElem?_set_ne q] at h
      obtain ⟨h1, h2⟩ := clr_in h
      exact ⟨by simp [Ne.symm q, h1], h2⟩
theorem clr_out : ∀ {own : List Nat} {st : St} {j : Nat}, j ∉ own → (clr own st).ρ[j]? = st.ρ[j]?
  | [], _, _, _ => rfl
  | v :: vs, st, j, h => by
    simp only [List.mem_cons, not_or] at h
    show ((clr vs st).ρ.set v none)[j]? = _
    rw [List.getElem?_set_ne (Ne.symm h.1)]
    exact clr_out h.2
theorem OwnAt.reσ {K : PySem.W.Frag} {F H : Hp} {S : List Addr} {σ σ' : L2.St} {o : O} {v : V} {B : List Addr} (h : OwnAt K F H S σ o v B) (f : ∀ i, o ≠ .bor i) : OwnAt K F H S σ' o v B := (h.unslot f).reslot
theorem Rel.clear {K : PySem.W.Frag} {F H : Hp} {S : List Addr} {own : List Nat} {σ σ' : L2.St} {st : St} {A : Nat → List Addr} (R : Rel K F H S σ st A) (hl : σ.length ≤ σ'.length) (h : ∀ j, j ∉ own → σ'[j]? = σ[j]?) : Rel K F H S σ' (clr own st) (clA own A) where
  same := R.same
  slots := fun j o e => by
    obtain ⟨h1, h2⟩ := clr_in e
    obtain ⟨v, h3, h4⟩ := R.slots j o h2
    refine ⟨v, (h j h1).trans h3, ?_⟩
    unfold clA
    rw [if_neg h1]
    exact h4.reσ fun i z => R.nobor j i (z ▸ h2)
  nobor := fun j k e => R.nobor j k (clr_in e).2
  nod := fun j => by
    unfold clA
    split
    · exact List.nodup_nil
    · exact R.nod j
  dis := fun i j b h1 h2 => by
    unfold clA at h1 h2
    split at h1
    · cases h1
    · split at h2
      · cases h2
      · exact R.dis i j b h1 h2
  out := fun i b hb => by
    unfold clA at hb
    split at hb
    · cases hb
    · exact R.out i b hb
  emp := fun i hi => by
    unfold clA
    split
    · rfl
    · rename_i z
      exact R.emp i fun o e => hi o ((clr_out z).trans e)
  src := by rw [clr_src]; exact R.src
  len := by rw [clr_len]; exact Nat.le_trans R.len hl
/-- slots that the machine has not wiped may be as before -/
theorem Rel.unwipe {K : PySem.W.Frag} {F H : Hp} {S : List Addr} {own : List Nat} {σ : L2.St} {st : St} {A : Nat → List Addr} (R : Rel K F H S (wipe σ own) st A) : Rel K F H S σ st A where
  same := R.same
  slots := fun j o e => by
    obtain ⟨v, h3, h4⟩ := R.slots j o e
    exact ⟨v, (wipe_some h3).1, h4.reσ fun i z => R.nobor j i (z ▸ e)⟩
  nobor := R.nobor
  nod := R.nod
  dis := R.dis
  out := R.out
  emp := R.emp
  src := R.src
  len := by have := R.len; rw [wipe_length] at this; exact this
theorem wipe_out {σ : L2.St} : ∀ {vs : List Nat} {j : Nat}, j ∉ vs → (wipe σ vs)[j]? = σ[j]?
  | [], _, _ => rfl
  | v :: vs, j, h => by
    simp only [List.mem_cons, not_or] at h
    unfold wipe
    rw [List.getElem?_set_ne (Ne.symm h.1)]
    exact wipe_out h.2
theorem wipe_in {σ : L2.St} : ∀ {vs : List Nat} {j : Nat}, j ∈ vs → j < σ.length → (wipe σ vs)[j]? = some none
  | [], _, h, _ => by cases h
  | v :: vs, j, h, hl => by
    unfold wipe
    by_cases q : v = j
    · subst q
      rw [List.getElem?_set_self (by rw [wipe_length]; exact hl)]
    · rw [List.getElem?_set_ne q]
      exact wipe_in (by simpa [Ne.symm q] using h) hl
theorem wipe_ext {σ σ' : L2.St} {vs : List Nat} (hl : σ'.length = σ.length) (h : ∀ j, j ∉ vs → σ'[j]? = σ[j]?) : wipe σ' vs = wipe σ vs := by
  refine List.ext_getElem? fun j => ?_
  by_cases q : j ∈ vs
  · by_cases z : j < σ.length
    · rw [wipe_in q z, wipe_in q (by omega)]
    · rw [List.getElem?_eq_none (by rw [wipe_length]; omega), List.getElem?_eq_none (by rw [wipe_length]; omega)]
  · rw [wipe_out q, wipe_out q]
    exact h j q
theorem ne_ow {S : List Addr} {A : Nat → List Addr} {D b : Addr} {i : Nat} (hD : ¬ Ow S A D) (hb : b ∈ A i) : b ≠ D := fun q => hD (.inr ⟨i, by rw [← q]; exact hb⟩)
/-- an object that is nobody's is changed -/
theorem Rel.off {K : PySem.W.Frag} {F H : Hp} {S : List Addr} {σ : L2.St} {st : St} {A : Nat → List Addr} (R : Rel K F H S σ st A) {D : Addr} {u : HO} (hF : F D = none) (hD : ¬ Ow S A D) : Rel K F (upd H D u) S σ st A where
  same := fun b o e => by rw [upd_ne (ne_of_none e hF)]; exact R.same b o e
  slots := fun i o e => by
    obtain ⟨v, h1, h2⟩ := R.slots i o e
    exact ⟨v, h1, h2.keep (Same.refl _) fun b hb w z => by rw [upd_ne (ne_ow hD hb)]; exact z⟩
  nobor := R.nobor
  nod := R.nod
  dis := R.dis
  out := fun i b hb => by
    obtain ⟨h1, h2, h3⟩ := R.out i b hb
    exact ⟨h1, h2, h3.keep fun o z => by rw [upd_ne (ne_ow hD hb)]; exact z⟩
  emp := R.emp
  src := by
    have q := R.src
    cases hs : st.src with
    | none => rw [hs] at q; exact q
    | some s =>
      rw [hs] at q
      obtain ⟨sa, ca, e, f1, f2, h1, h2⟩ := q
      have n1 : sa ≠ D := fun z => hD (.inl (by rw [e, ← z]; exact List.mem_cons_self))
      have n2 : ca ≠ D := fun z => hD (.inl (by rw [e, ← z]; exact List.mem_cons_of_mem _ List.mem_cons_self))
      exact ⟨sa, ca, e, f1, f2, by rw [upd_ne n1]; exact h1, by rw [upd_ne n2]; exact h2⟩
  len := R.len
theorem Step.off {F H F1 H1 : Hp} {W W1 : Addr → Prop} {D : Addr} {u : HO} (st : Step F H W F1 H1 W1) (hD : W1 D) : Step F H W F1 (upd H1 D u) W1 := st.trans
  ⟨Same.refl _, fun b o e n => by rw [upd_ne (fun q => n (by rw [q]; exact hD))]; exact e, fun b h => by
    by_cases q : b = D
    · rw [q, upd_same]; exact fun z => nomatch z
    · rw [upd_ne q]; exact h, fun b h => .inl h, fun b h => .inl h⟩

/-! ### list comprehensions -/
def tOc (Φ : Fs) (K : PySem.W.Frag) (c : Oc) : TT := fun σ H Q => ∃ F S st A b st', Rel K F H S σ st A ∧ evOc Φ c st = some (b, st') ∧ ∀ F' H' A', PostT K F H S σ σ A st' F' H' A' → Q b H'
theorem PTs.imp {X : Cx} {e : List Expr} {t t' : TT} (h : PTs X e t) (i : ∀ σ H Q, t' σ H Q → t σ H Q) : PTs X e t' := ⟨fun pins s σ H Q I q => h.run pins s σ H Q I (i σ H Q q)⟩
theorem c_no {X : Cx} {Φ : Fs} : PTs X [] (tOc Φ X.K .no) := PTs.imp pts_nil fun σ H Q h => by
  obtain ⟨F, S, st, A, b, st', R, e, k⟩ := h
  rw [evOc] at e
  cases e
  exact k _ _ _ (.here R)
theorem c_yes {X : Cx} {Φ : Fs} {c : Expr} {t : T} (h : PT X c (tT Φ X.K t)) : PTs X [c] (tOc Φ X.K (.yes t)) := PTs.imp (pts_one h) fun σ H Q h => by
  obtain ⟨F, S, st, A, b, st', R, e, k⟩ := h
  rw [evOc] at e
  exact ⟨F, S, st, A, b, st', R, e, k⟩
theorem datAll_len : ∀ {os : List O} {xs : List PyData}, datAll os = some xs → os.length = xs.length
  | [], _, e => by cases e; rfl
  | o :: os, xs, e => by
    unfold datAll at e
    obtain ⟨x, _, e⟩ := bindE e
    obtain ⟨ys, e2, e⟩ := mapE e
    cases e
    simp [datAll_len e2]
theorem DenAll.snoc {K : PySem.W.Frag} {F : Hp} {vs : List V} {ds : List PyData} {v : V} {d : PyData} (h : DenAll K F vs ds) (g : Den K F v d) : DenAll K F (vs ++ [v]) (ds ++ [d]) := h.append (.cons g .nil)
/-- what stands at the beginning of each turn -/
def LcI (Φ : Fs) (K : PySem.W.Frag) (own : List Nat) (f : PyData → St → Option (Option O × St)) (S : List Addr) (σ : L2.St) (F1 H1 : Hp) (A1 : Nat → List Addr) (D : Addr) (s5 : St) (ys todo : List PyData) (H : Hp) : Prop :=
  ∃ F st A acc done rest ysr, Rel K F H S (wipe σ own) st A ∧ Step F1 H1 (Ow S A1) F H (fun b => Ow S A b ∨ b = D) ∧ H D = some (.lst acc) ∧ DenAll K F acc done ∧ F D = none ∧ ¬ Ow S A D ∧ lcLoop f own todo st = some (rest, s5) ∧ datAll rest = some ysr ∧ done ++ ysr = ys
theorem keep1 {F H F1 H1 : Hp} {W W1 : Addr → Prop} {D : Addr} {u : HO} (st : Step F H W F1 H1 W1) (f : F D = none) (n : ¬ W D) (e : H D = some u) (m : Mu H D) : F1 D = none ∧ ¬ W1 D ∧ H1 D = some u := by
  have q := side_new (B := [D]) st (fun b hb => by
    have z : b = D := by simpa using hb
    subst z
    exact ⟨f, n, m⟩) D List.mem_cons_self
  exact ⟨q.1, q.2.1, st.keep D u e n⟩
section
variable {X : Cx} {Φ : Fs} {elt tg iter : Expr} {ifs : List Expr} {scope : Scope} {own : List (Str × Nat)} {pos : Pos} {ee : E} {et : Tg} {ei : Vm.It} {ec : Oc}
theorem lc_read (hsub : ∀ j ∈ tgN et, j ∈ own.map (·.2)) {σ : L2.St} {H : Hp} {Q : VK} (h : tE Φ X.K (.lc false ee et ei ec (own.map (·.2))) σ H Q) : tLc (tIt Φ X.K ei) (gT X.K et) (tOc Φ X.K ec) (tE Φ X.K ee) (own.map (·.2)) σ H Q := by
  obtain ⟨F, S, st, A, o, st', R, e, k⟩ := h
  rw [evE] at e
  obtain ⟨⟨xs, s1⟩, h1, e⟩ := bindE e
  obtain ⟨⟨os, s5⟩, h2, e⟩ := bindE e
  dsimp only at e h2
  split at e
  case isFalse => cases e
  rename_i hz
  rw [if_neg Bool.false_ne_true] at e
  obtain ⟨ys, h3, e⟩ := mapE e
  cases e
  generalize hO : own.map (·.2) = ow at *
  generalize hf : (fun (x : PyData) (s : St) => (asg et x s).bind fun s2 => (evOc Φ ec s2).bind fun (t, s3) => if t then (evE Φ ee s3).map fun (o, s4) => (some o, s4) else some (none, s3)) = f at h2
  refine ⟨F, S, st, A, xs, s1, R, h1, fun J F1 H1 A1 p dl => fun D hD => ⟨fun i m Hc => m = xs.length - i ∧ i ≤ xs.length ∧ LcI Φ X.K ow f S σ F1 H1 A1 D st' ys (xs.drop i) Hc, ⟨xs.length, rfl, Nat.zero_le _, ?_⟩, ?_⟩⟩
  · have fD := p.rel.same.free hD
    have nD : ¬ Ow S (clA ow A1) D := fun z => by
      rcases clA_sub z with z | ⟨j, z⟩
      · have rs := p.rel.src
        cases hs : s1.src with
        | none => rw [hs] at rs; have rs : S = [] := rs; rw [rs] at z; cases z
        | some s =>
          rw [hs] at rs
          obtain ⟨sa, ca, e, _, _, g1, g2⟩ := rs
          rw [e] at z
          rcases List.mem_cons.mp z with z | z
          · rw [z, g1] at hD; cases hD
          · have z : D = ca := by simpa using z
            rw [z, g2] at hD; cases hD
      · exact (p.rel.out j D z).2.2.ne hD
    refine ⟨F1, clr ow s1, clA ow A1, [], [], os, ys, ?_, ?_, upd_same, .nil, fD, nD, by rw [List.drop_zero]; exact h2, h3, rfl⟩
    · exact (p.rel.clear (by rw [wipe_length]; exact Nat.le_refl _) fun j hj => wipe_out hj).off fD nD
    · refine ⟨Same.refl _, fun b u e _ => by rw [upd_ne (ne_of_none e hD)]; exact e, fun b h => ?_, fun b h => ?_, fun b h => .inl h⟩
      · rw [upd_ne (fun q => h (by rw [q]; exact hD))]; exact h
      · rcases h with h | h
        · exact .inl (clA_sub h)
        · exact .inr (by rw [h]; exact hD)
  · rintro i m Hc ⟨rfl, hi', Fc, stc, Ac, acc, done, rest, ysr, Rc, Sc, hDc, dn, fD, nD, hl, hr, hy⟩
    by_cases hlt : i < xs.length
    · have hx : xs[i]? = some xs[i] := List.getElem?_eq_getElem hlt
      have hdr : xs.drop i = xs[i] :: xs.drop (i + 1) := List.drop_eq_getElem_cons hlt
      obtain ⟨go, yl⟩ := (dl Fc Hc Sc.fr Rc.same i).1 _ hx
      rw [hdr, lcLoop] at hl
      obtain ⟨⟨o1, sA⟩, hf1, hl⟩ := bindE hl
      obtain ⟨⟨os', s6⟩, hl1, hl⟩ := mapE hl
      cases hl
      refine .inr ⟨go, LcI Φ X.K ow f S σ F1 H1 A1 D st' ys (xs.drop (i + 1)), fun H' n => ⟨xs.length - (i + 1), by omega, rfl, hlt, n⟩, fun x H2 y => ?_⟩
      obtain ⟨F2, gr, dx⟩ := yl x H2 y
      rw [← hf] at hf1
      obtain ⟨s2, ha, hf1⟩ := bindE hf1
      obtain ⟨⟨t, s3⟩, hc1, hf1⟩ := bindE hf1
      dsimp only at hf1
      refine ⟨F2, S, stc, Ac, xs[i], s2, Rc.grow gr, dx, ha, fun σ2 A2 p2 => ⟨?_, F2, S, s2, A2, t, s3, p2.post.rel, hc1, fun F3 H3 A3 p3 => ?_⟩⟩
      · have z := wipe_ext (vs := ow) p2.len fun j hj => p2.off j fun q => hj (hsub j q)
        rw [z]
        exact wipe_ext (wipe_length _ _) fun j hj => wipe_out hj
      · -- D through these steps
        have mD : Mu Hc D := .inl ⟨acc, hDc⟩
        have S3 : Step Fc Hc (Ow S Ac) F3 H3 (Ow S A3) := ((gr.step (W := Ow S Ac)).trans p2.post.step).trans p3.step
        obtain ⟨fD3, nD3, hD3⟩ := keep1 S3 fD nD hDc mD
        have S13 : Step F1 H1 (Ow S A1) F3 H3 (fun b => Ow S A3 b ∨ b = D) := Sc.trans (S3.side fun b => b = D)
        have hle : ∀ σ2' : L2.St, σ2'.length = (wipe σ ow).length → (wipe σ ow).length ≤ σ2'.length := fun _ h => by rw [h]; exact Nat.le_refl _
        have back : ∀ (F4 H4 : Hp) (A4 : Nat → List Addr) (s4 : St), Rel X.K F4 H4 S σ2 s4 A4 → Rel X.K F4 H4 S (wipe σ ow) (clr ow s4) (clA ow A4) := fun F4 H4 A4 s4 r => r.clear (by rw [p2.len]; exact Nat.le_refl _) fun j hj => (p2.off j fun q => hj (hsub j q)).symm
        cases t with
        | false =>
          rw [if_neg Bool.false_ne_true] at hf1
          show (if false = true then _ else _)
          rw [if_neg Bool.false_ne_true]
          cases hf1
          exact ⟨F3, clr ow _, clA ow A3, acc, done, _, ysr, back _ _ _ _ p3.rel, S13.weak fun b h => h.imp clA_sub id, hD3, dn.mono S3.fr, fD3, fun z => nD3 (clA_sub z), hl1, hr, hy⟩
        | true =>
          rw [if_pos rfl] at hf1
          show (if true = true then _ else _)
          rw [if_pos rfl]
          obtain ⟨⟨oe, s4⟩, he1, hf1⟩ := mapE hf1
          cases hf1
          have hr' : datAll (oe :: os') = some ysr := hr
          unfold datAll at hr'
          obtain ⟨y0, hy0, hr'⟩ := bindE hr'
          obtain ⟨ysr', hr2, hr'⟩ := mapE hr'
          cases hr'
          refine ⟨F3, S, s3, A3, oe, s4, p3.rel, he1, fun v F4 H4 A4 B p4 => ?_⟩
          obtain ⟨t4, dv⟩ := p4.dat1 hy0
          obtain ⟨fD4, nD4, hD4⟩ := keep1 t4.step fD3 nD3 hD3 (.inl ⟨acc, hD3⟩)
          refine ⟨acc, hD4, ?_, ?_⟩
          · have e1 := dn.length
            have e2 := datAll_len h3
            have e3 := congrArg List.length hy
            simp only [List.length_append, List.length_cons] at e3
            omega
          · refine ⟨_, clr ow _, clA ow A4, acc ++ [v], done ++ [y0], os', ysr', (back _ _ _ _ t4.rel).off fD4 (fun z => nD4 (clA_sub z)), ?_, upd_same, ?_, fD4, fun z => nD4 (clA_sub z), hl1, hr2, by rw [← hy]; simp⟩
            · exact ((S13.trans (t4.step.side fun b => b = D)).off (.inr rfl)).weak fun b h => h.imp clA_sub id
            · exact (dn.mono (S3.fr.trans t4.step.fr)).snoc dv
    · have e : i = xs.length := by omega
      subst e
      refine .inl ⟨(dl Fc Hc Sc.fr Rc.same _).2 (Nat.le_refl _), ?_⟩
      rw [List.drop_length, lcLoop] at hl
      cases hl
      cases hr
      rw [List.append_nil] at hy
      subst hy
      refine k (.ref D) Fc Hc Ac [D] ⟨(p.step.trans Sc).weak fun b h => h.imp id fun h => by simpa using h, Rc.unwipe, ⟨D, acc, rfl, rfl, hDc, dn⟩, by simp, fun b hb => ?_⟩
      have z : b = D := by simpa using hb
      subst z
      exact ⟨fD, nD, .inl ⟨acc, hDc⟩⟩
theorem e_lc (hc : X.calm = true) (hN : X.N.Nodup) (hi : PI X tg iter (tIt Φ X.K ei)) (ok : BlkOk X.N X.env.scope scope own) (hsub : ∀ j ∈ tgN et, j ∈ own.map (·.2))
    (hg : ∀ (s : Shared) (H : Hp) (C : Addr) (cl : List (Str × Addr)) (fp : List Addr), PG (X.blk s H scope (compEnvC scope cl C X.env) fp) tg (gT X.K et)) (ht : ∀ (s : Shared) (H : Hp) (C : Addr) (cl : List (Str × Addr)) (fp : List Addr), PTs (X.blk s H scope (compEnvC scope cl C X.env) fp) ifs (tOc Φ X.K ec))
    (he : ∀ (s : Shared) (H : Hp) (C : Addr) (cl : List (Str × Addr)) (fp : List Addr), PE (X.blk s H scope (compEnvC scope cl C X.env) fp) elt (tE Φ X.K ee)) (hs : ∀ x, foldedSetIterable iter X.env x = pure x) :
    PE X (.ListComp elt [⟨tg, iter, ifs, 0⟩] scope pos) (tE Φ X.K (.lc false ee et ei ec (own.map (·.2)))) := PE.imp (pe_lc hc hN hi ok hg ht he hs) fun σ H Q h => lc_read hsub h
theorem s_setLc {i : Nat} {y : Str} {py spos : Pos} (hc : X.calm = true) (hN : X.N.Nodup) (hy : X.N[i]? = some y) (hyl : X.env.scope.names.lookup y = some .local)
    (hsw : swapsWith (.ListComp elt [⟨tg, iter, ifs, 0⟩] scope pos) (some (.Name y py)) spos.line X.env = pure true) (hi : PI X tg iter (tIt Φ X.K ei)) (ok : BlkOk X.N X.env.scope scope own) (hsub : ∀ j ∈ tgN et, j ∈ own.map (·.2))
    (hg : ∀ (s : Shared) (H : Hp) (C : Addr) (cl : List (Str × Addr)) (fp : List Addr), PG (X.blk s H scope (compEnvC scope cl C X.env) fp) tg (gT X.K et)) (ht : ∀ (s : Shared) (H : Hp) (C : Addr) (cl : List (Str × Addr)) (fp : List Addr), PTs (X.blk s H scope (compEnvC scope cl C X.env) fp) ifs (tOc Φ X.K ec))
    (he : ∀ (s : Shared) (H : Hp) (C : Addr) (cl : List (Str × Addr)) (fp : List Addr), PE (X.blk s H scope (compEnvC scope cl C X.env) fp) elt (tE Φ X.K ee)) (hs : ∀ x, foldedSetIterable iter X.env x = pure x) :
    PS X (.Assign [.Name y py] (.ListComp elt [⟨tg, iter, ifs, 0⟩] scope pos) spos) (fun D σ H => tE Φ X.K (.lc false ee et ei ec (own.map (·.2))) σ H fun x H1 => gName i x σ H1 D.nx) :=
  ⟨fun pins s σ H D I q => (ps_setLc hc hN hy hyl hsw hi ok hg ht he hs).run pins s σ H D I (lc_read hsub q)⟩
end
end Vm


set_option Elab.async false
set_option linter.all false
set_option maxRecDepth 100000
/-! Vm, part 17: statements. -/
namespace Vm
open PySem PySem.Spec PyProof.Rows L2

/-- behind a return -/
structure PostR (K : PySem.W.Frag) (F H : Hp) (S : List Addr) (A : Nat → List Addr) (o : O) (src' : Option Src) (v : V) (F' H' : Hp) (B : List Addr) : Prop where
  step : Step F H (Ow S A) F' H' (fun b => b ∈ S ∨ b ∈ B)
  same : Same F' H'
  src : SrcRel F' H' S src'
  own : OwnAt K F' H' S [] o v B
  nod : B.Nodup
  new : ∀ b ∈ B, F' b = none ∧ b ∉ S ∧ Mu H' b
def OutOk (K : PySem.W.Frag) (F H : Hp) (S : List Addr) (σ : L2.St) (A : Nat → List Addr) (D : Ends) : Out → Prop
  | .nx st' => ∀ σ' F' H' A', PostT K F H S σ σ' A st' F' H' A' → D.nx σ' H'
  | .brk st' => ∀ σ' F' H' A', PostT K F H S σ σ' A st' F' H' A' → D.bk σ' H'
  | .cnt st' => ∀ σ' F' H' A', PostT K F H S σ σ' A st' F' H' A' → D.ct σ' H'
  | .ret o src' => ∀ v F' H' B, PostR K F H S A o src' v F' H' B → D.rt v H'
theorem OutOk.after {K : PySem.W.Frag} {F H F1 H1 : Hp} {S : List Addr} {σ σ1 : L2.St} {A A1 : Nat → List Addr} {D : Ends} {s1 : St} {out : Out} (k : OutOk K F H S σ A D out) (p : PostT K F H S σ σ1 A s1 F1 H1 A1) : OutOk K F1 H1 S σ1 A1 D out := by
  cases out with
  | nx st' => exact fun σ' F' H' A' q => k σ' F' H' A' (p.trans q)
  | brk st' => exact fun σ' F' H' A' q => k σ' F' H' A' (p.trans q)
  | cnt st' => exact fun σ' F' H' A' q => k σ' F' H' A' (p.trans q)
  | ret o src' => exact fun v F' H' B q => k v F' H' B ⟨p.step.trans q.step, q.same, q.src, q.own, q.nod, q.new⟩
def tS (Φ : Fs) (K : PySem.W.Frag) (s : S) : TS := fun D σ H => ∃ F Sa st A out, Rel K F H Sa σ st A ∧ evS Φ s st = some out ∧ OutOk K F H Sa σ A D out
def tSs (Φ : Fs) (K : PySem.W.Frag) (s : Ss) : TS := fun D σ H => ∃ F Sa st A out, Rel K F H Sa σ st A ∧ evSs Φ s st = some out ∧ OutOk K F H Sa σ A D out
theorem PostT.grow {K : PySem.W.Frag} {F H F1 H1 : Hp} {S : List Addr} {σ : L2.St} {A : Nat → List Addr} {st : St} (R : Rel K F H S σ st A) (g : Grow F H F1 H1) : PostT K F H S σ σ A st F1 H1 A := ⟨g.step, R.grow g⟩

section
variable {X : Cx} {Φ : Fs} {a b c : Expr} {ea eb ec : E} {pos p : Pos} {st : Stmt} {sts : List Stmt} {es : S} {ess : Ss}
theorem ss_nil : PSs X [] (tSs Φ X.K .nil) := PSs.imp pss_nil fun D σ H h => by
  obtain ⟨F, S, st, A, out, R, e, k⟩ := h
  rw [evSs] at e
  cases e
  exact k _ _ _ _ (.here R)
theorem ss_cons (h1 : PS X st (tS Φ X.K es)) (h2 : PSs X sts (tSs Φ X.K ess)) : PSs X (st :: sts) (tSs Φ X.K (.cons es ess)) := PSs.imp (pss_cons h1 h2) fun D σ H h => by
  obtain ⟨F, S, st, A, out, R, e, k⟩ := h
  rw [evSs] at e
  cases h1 : evS Φ es st with
  | none => rw [h1] at e; cases e
  | some o1 =>
    refine ⟨F, S, st, A, o1, R, h1, ?_⟩
    rw [h1] at e
    cases o1 with
    | nx s1 => exact fun σ' F' H' A' p => ⟨F', S, s1, A', out, p.rel, e, k.after p⟩
    | brk s1 => cases e; exact k
    | cnt s1 => cases e; exact k
    | ret o s1 => cases e; exact k
theorem s_pass : PS X (.Pass pos) (tS Φ X.K .pass) := PS.imp ps_pass fun D σ H h => by
  obtain ⟨F, S, st, A, out, R, e, k⟩ := h
  rw [evS] at e
  cases e
  exact k _ _ _ _ (.here R)
theorem s_brk : PS X (.Break pos) (tS Φ X.K .brk) := PS.imp ps_break fun D σ H h => by
  obtain ⟨F, S, st, A, out, R, e, k⟩ := h
  rw [evS] at e
  cases e
  exact k _ _ _ _ (.here R)
theorem s_cnt : PS X (.Continue pos) (tS Φ X.K .cnt) := PS.imp ps_continue fun D σ H h => by
  obtain ⟨F, S, st, A, out, R, e, k⟩ := h
  rw [evS] at e
  cases e
  exact k _ _ _ _ (.here R)
theorem s_ret (h : PE X a (tE Φ X.K ea)) : PS X (.Return (some a) pos) (tS Φ X.K (.ret ea)) := PS.imp (ps_ret h) fun D σ H h => by
  obtain ⟨F, S, st, A, out, R, e, k⟩ := h
  rw [evS] at e
  obtain ⟨⟨o, s1⟩, h1, e⟩ := bindE e
  dsimp only at e
  split at e
  · rename_i hs
    cases e
    refine one_read R h1 fun v F' H' A' B q => k v F' H' B ⟨q.step.weak fun b h => h.imp .inl id, q.rel.same, q.rel.src, q.own.unslot (fun i z => by rw [z] at hs; cases hs), q.nod, fun b hb => ⟨(q.new b hb).1, fun z => (q.new b hb).2.1 (.inl z), (q.new b hb).2.2⟩⟩
  · cases e
theorem s_retn : PS X (.Return none pos) (tS Φ X.K .retn) := PS.imp ps_retN fun D σ H h => by
  obtain ⟨F, S, st, A, out, R, e, k⟩ := h
  rw [evS] at e
  cases e
  exact k .non F H [] ⟨Step.refl.weak fun b h => h.elim .inl (fun z => nomatch z), R.same, R.src, ⟨rfl, .non⟩, List.nodup_nil, fun _ z => nomatch z⟩
theorem s_ifs {t : T} {A B : List Stmt} {ea eb : Ss} (hc : PT X c (tT Φ X.K t)) (ha : PSs X A (tSs Φ X.K ea)) (hb : PSs X B (tSs Φ X.K eb)) : PS X (.If c A B pos) (tS Φ X.K (.ifs t ea eb)) := PS.imp (ps_if hc ha hb) fun D σ H h => by
  obtain ⟨F, S, st, A, out, R, e, k⟩ := h
  rw [evS] at e
  obtain ⟨⟨x, s1⟩, h1, e⟩ := bindE e
  refine ⟨F, S, st, A, x, s1, R, h1, fun F' H' A' p => ?_⟩
  cases x with
  | true => exact ⟨F', S, s1, A', out, p.rel, e, k.after p⟩
  | false => exact ⟨F', S, s1, A', out, p.rel, e, k.after p⟩
theorem put_some {st st' : St} {i : Nat} {o : O} (e : put st i o = some st') : i < st.ρ.length ∧ o.slot = true ∧ st' = st.set i (some o) := by
  unfold put at e
  split at e
  · rename_i h
    cases e
    exact ⟨h.1, h.2, rfl⟩
  · cases e
theorem slot_nobor {o : O} (h : o.slot = true) : ∀ i, o ≠ .bor i := fun i z => by rw [z] at h; cases h
/-- a value goes into a name -/
theorem Post.put {K : PySem.W.Frag} {F H F1 H1 : Hp} {S : List Addr} {σ : L2.St} {A A1 : Nat → List Addr} {o : O} {s1 s2 : St} {v : V} {B : List Addr} {i : Nat} (p : Post K F H S σ A o s1 v F1 H1 A1 B) (e : put s1 i o = some s2) : PostT K F H S σ (σ.set i (some v)) A s2 F1 H1 (upA A1 i B) := by
  obtain ⟨hl, hs, rfl⟩ := put_some e
  refine ⟨p.step.weak fun b h => ow_upB h, p.rel.slot hl hs (p.own.reσ (slot_nobor hs)) (List.getElem?_set_self (Nat.lt_of_lt_of_le hl p.rel.len)) (fun j hj => List.getElem?_set_ne (Ne.symm hj)) p.nod fun b hb => ⟨(p.new b hb).1, fun z => (p.new b hb).2.1 (.inl z), (p.new b hb).2.2, fun j _ z => (p.new b hb).2.1 (.inr ⟨j, z⟩)⟩⟩
theorem s_set {i : Nat} {x : Str} {px : Pos} (hN : X.N.Nodup) (hi : X.N[i]? = some x) (hx : Loc X.env.scope x) (ha : PE X a (tE Φ X.K ea)) (hs : swapsWith a (some (.Name x px)) pos.line X.env = pure false) (hf : X.fn x = true ∨ X.env.scope.names.lookup x = some .local) :
    PS X (.Assign [.Name x px] a pos) (tS Φ X.K (.set i ea)) := PS.imp (ps_set hN hi hx ha hs hf) fun D σ H h => by
  obtain ⟨F, S, st, A, out, R, e, k⟩ := h
  rw [evS] at e
  obtain ⟨⟨o, s1⟩, h1, e⟩ := bindE e
  obtain ⟨s2, h2, e⟩ := mapE e
  cases e
  exact one_read R h1 fun v F' H' A' B q => k _ _ _ _ (q.put h2)

/-! ### several names at once -/
def sets : List Nat → List V → L2.St → L2.St
  | i :: is, v :: vs, σ => sets is vs (σ.set i (some v))
  | _, _, σ => σ
theorem puts_ok {K : PySem.W.Frag} {S : List Addr} {F H F1 H1 : Hp} {σ0 : L2.St} {A : Nat → List Addr} : ∀ {is : List Nat} {os : List O} {vs : List V} {B : List Addr} {σ : L2.St} {A1 : Nat → List Addr} {s1 s2 : St},
    Step F H (Ow S A) F1 H1 (fun b => Ow S A1 b ∨ b ∈ B) → Rel K F1 H1 S σ s1 A1 → OwnAll K F1 H1 S σ0 os vs B → B.Nodup → (∀ b ∈ B, F1 b = none ∧ ¬ Ow S A1 b ∧ Mu H1 b) → puts is os s1 = some s2 → ∃ A2, PostT K F H S σ0 (sets is vs σ) A s2 F1 H1 A2 := by
  intro is
  induction is with
  | nil =>
    intro os vs B σ A1 s1 s2 st R ow nd new e
    cases os with
    | cons o os => unfold puts at e; cases e
    | nil =>
      cases ow
      unfold puts at e
      cases e
      exact ⟨A1, st.weak fun b h => .inl h, R⟩
  | cons i is ih =>
    intro os vs B σ A1 s1 s2 st R ow nd new e
    cases ow with
    | nil => unfold puts at e; cases e
    | @cons o v B os vs Bs h t =>
      unfold puts at e
      obtain ⟨s', e1, e2⟩ := bindE e
      obtain ⟨hl, hs, rfl⟩ := put_some e1
      obtain ⟨n1, n2, n3⟩ := List.nodup_append.mp nd
      have R' : Rel K F1 H1 S (σ.set i (some v)) (s1.set i (some o)) (upA A1 i B) := R.slot hl hs (h.reσ (slot_nobor hs)) (List.getElem?_set_self (Nat.lt_of_lt_of_le hl R.len)) (fun j hj => List.getElem?_set_ne (Ne.symm hj)) n1 fun b hb => by
        obtain ⟨q1, q2, q3⟩ := new b (List.mem_append_left _ hb)
        exact ⟨q1, fun z => q2 (.inl z), q3, fun j _ z => q2 (.inr ⟨j, z⟩)⟩
      refine ih (os := os) (B := Bs) (σ := σ.set i (some v)) (st.weak fun b h => ?_) R' t n2 (fun b hb => ?_) e2
      · rcases h with h | h
        · rcases ow_upB h with h | h
          · exact .inl h
          · exact .inr (List.mem_append_left _ h)
        · exact .inr (List.mem_append_right _ h)
      · obtain ⟨q1, q2, q3⟩ := new b (List.mem_append_right _ hb)
        refine ⟨q1, fun z => ?_, q3⟩
        rcases ow_upB z with z | z
        · exact q2 z
        · exact n3 b z b hb rfl
theorem s_par2 {i j : Nat} {x y : Str} {px py pt pt2 : Pos} {kt k2 : Nat} {es : Es} (hc : X.calm = true) (hN : X.N.Nodup) (hi : X.N[i]? = some x) (hj : X.N[j]? = some y) (hij : i ≠ j)
    (hx : X.env.scope.names.lookup x = some .local) (hy : X.env.scope.names.lookup y = some .local) (ha : PA X [a, b] (tEs Φ X.K es))
    (hw : swappedStores [.Tuple [.Name x px, .Name y py] kt pt] (.Tuple [a, b] k2 pt2) X.env = pure (some [x, y])) :
    PS X (.Assign [.Tuple [.Name x px, .Name y py] kt pt] (.Tuple [a, b] k2 pt2) pos) (tS Φ X.K (.par [i, j] es)) := PS.imp (ps_par hc hN hi hj hij hx hy ha hw) fun D σ H h => by
  obtain ⟨F, S, st, A, out, R, e, k⟩ := h
  rw [evS] at e
  obtain ⟨⟨os, s1⟩, h1, e⟩ := bindE e
  obtain ⟨s2, h2, e⟩ := mapE e
  cases e
  refine ⟨F, S, st, A, os, s1, R, h1, fun vs F1 H1 A1 B q => ?_⟩
  obtain ⟨A2, t⟩ := puts_ok q.step q.rel q.own q.nod q.new h2
  cases os with
  | nil => unfold puts at h2; cases h2
  | cons o1 os =>
    cases os with
    | nil => unfold puts at h2; obtain ⟨_, _, h2⟩ := bindE h2; unfold puts at h2; cases h2
    | cons o2 os =>
      cases os with
      | cons o3 os => unfold puts at h2; obtain ⟨_, _, h2⟩ := bindE h2; unfold puts at h2; obtain ⟨_, _, h2⟩ := bindE h2; unfold puts at h2; cases h2
      | nil =>
        cases q.own with
        | cons _ q2 =>
          cases q2 with
          | cons _ q3 =>
            cases q3
            exact ⟨_, _, rfl, k _ _ _ _ t⟩
theorem s_par3 {i j l : Nat} {x y z : Str} {px py pz pt pt2 : Pos} {kt k2 : Nat} {es : Es} (hc : X.calm = true) (hN : X.N.Nodup) (hi : X.N[i]? = some x) (hj : X.N[j]? = some y) (hl : X.N[l]? = some z) (hij : i ≠ j) (hil : i ≠ l) (hjl : j ≠ l)
    (hx : X.env.scope.names.lookup x = some .local) (hy : X.env.scope.names.lookup y = some .local) (hz : X.env.scope.names.lookup z = some .local) (ha : PA X [a, b, c] (tEs Φ X.K es))
    (hw : swappedStores [.Tuple [.Name x px, .Name y py, .Name z pz] kt pt] (.Tuple [a, b, c] k2 pt2) X.env = pure (some [x, y, z])) :
    PS X (.Assign [.Tuple [.Name x px, .Name y py, .Name z pz] kt pt] (.Tuple [a, b, c] k2 pt2) pos) (tS Φ X.K (.par [i, j, l] es)) := PS.imp (ps_par3 hc hN hi hj hl hij hil hjl hx hy hz ha hw) fun D σ H h => by
  obtain ⟨F, S, st, A, out, R, e, k⟩ := h
  rw [evS] at e
  obtain ⟨⟨os, s1⟩, h1, e⟩ := bindE e
  obtain ⟨s2, h2, e⟩ := mapE e
  cases e
  refine ⟨F, S, st, A, os, s1, R, h1, fun vs F1 H1 A1 B q => ?_⟩
  obtain ⟨A2, t⟩ := puts_ok q.step q.rel q.own q.nod q.new h2
  cases os with
  | nil => unfold puts at h2; cases h2
  | cons o1 os =>
    cases os with
    | nil => unfold puts at h2; obtain ⟨_, _, h2⟩ := bindE h2; unfold puts at h2; cases h2
    | cons o2 os =>
      cases os with
      | nil => unfold puts at h2; obtain ⟨_, _, h2⟩ := bindE h2; unfold puts at h2; obtain ⟨_, _, h2⟩ := bindE h2; unfold puts at h2; cases h2
      | cons o3 os =>
        cases os with
        | cons o4 os => unfold puts at h2; obtain ⟨_, _, h2⟩ := bindE h2; unfold puts at h2; obtain ⟨_, _, h2⟩ := bindE h2; unfold puts at h2; obtain ⟨_, _, h2⟩ := bindE h2; unfold puts at h2; cases h2
        | nil =>
          cases q.own with
          | cons _ q2 =>
            cases q2 with
            | cons _ q3 =>
              cases q3 with
              | cons _ q4 =>
                cases q4
                exact ⟨_, _, _, rfl, k _ _ _ _ t⟩
end
end Vm


set_option Elab.async false
set_option linter.all false
set_option maxRecDepth 100000
/-! Vm, part 18: several names by a tuple, stores, append, for. -/
namespace Vm
open PySem PySem.Spec PyProof.Rows L2

section
variable {K : PySem.W.Frag} {F H F1 H1 F2 H2 : Hp} {S : List Addr} {σ : L2.St} {A A1 A2 : Nat → List Addr} {st s1 s2 : St}
theorem PostL.grow {os : List O} {vs : List V} {B : List Addr} (q : PostL K F H S σ A os s1 vs F1 H1 A1 B) (g : Grow F1 H1 F2 H2) : PostL K F H S σ A os s1 vs F2 H2 A1 B := by
  have z := side_new (W := Ow S A1) (W' := Ow S A1) g.step fun b hb => ⟨(q.new b hb).1, (q.new b hb).2.1, (q.new b hb).2.2⟩
  exact ⟨q.step.trans (g.step), q.rel.grow g, q.own.past (g.step (W := Ow S A1)) fun b hb => (q.new b hb).2.1, q.nod, z⟩
/-- slot i's object is changed in its place -/
theorem Rel.putAt {i : Nat} {o o' : O} {a : Addr} {u : HO} (R : Rel K F H S σ st A) (q : st.ρ[i]? = some (some o)) (hA : A i = [a]) (hv : σ[i]? = some (some (.ref a))) (h : OwnAt K F (upd H a u) S σ o' (.ref a) [a]) (hs : o'.slot = true) (mu : Mu (upd H a u) a) :
    Rel K F (upd H a u) S σ (st.set i (some o')) A := by
  have hm : a ∈ A i := by rw [hA]; exact List.mem_cons_self
  obtain ⟨f1, f2, _⟩ := R.out i a hm
  have n1 : ¬ Ow S (upA A i []) a := fun z => by
    rcases z with z | ⟨j, z⟩
    · exact f2 z
    · by_cases r : j = i
      · rw [r, upA_same] at z; cases z
      · rw [upA_ne r] at z
        exact r (R.dis j i a z hm)
  have hi := lt_of_slot q
  have R1 := ((R.drop (i := i) (σ' := σ) fun _ _ => rfl).off (D := a) (u := u) f1 n1)
  have R2 := R1.slot (i := i) (o := o') (v := .ref a) (B := [a]) (σ' := σ) (by show i < (st.ρ.set i none).length; rw [List.length_set]; exact hi) hs h hv (fun _ _ => rfl) (by simp) fun b hb => by
    have e : b = a := by simpa using hb
    subst e
    exact ⟨f1, f2, mu, fun j hj z => n1 (.inr ⟨j, z⟩)⟩
  have es : (st.set i none).set i (some o') = st.set i (some o') := by unfold St.set; simp
  have eA : upA (upA A i []) i [a] = A := by
    funext j
    unfold upA
    by_cases r : j = i
    · simp [r, hA]
    · simp [r]
  rw [es, eA] at R2
  exact R2
theorem PostT.putAt {i : Nat} {o o' : O} {a : Addr} {u : HO} (p : PostT K F H S σ σ A s1 F1 H1 A1) (q : s1.ρ[i]? = some (some o)) (hA : A1 i = [a]) (hv : σ[i]? = some (some (.ref a))) (h : OwnAt K F1 (upd H1 a u) S σ o' (.ref a) [a]) (hs : o'.slot = true) (mu : Mu (upd H1 a u) a) :
    PostT K F H S σ σ A (s1.set i (some o')) F1 (upd H1 a u) A1 :=
  ⟨p.step.off (.inr ⟨i, by rw [hA]; exact List.mem_cons_self⟩), p.rel.putAt q hA hv h hs mu⟩
end

section
variable {X : Cx} {Φ : Fs} {a b c : Expr} {ea eb ec : E} {pos p : Pos} {as : List Expr}
/-! ### several names by a tuple -/
def gNms (is : List Nat) : TGs := fun vs σ H Q => vs.length = is.length ∧ Q (sets is vs σ) H
theorem gn_nil : PGs X [] (gNms []) := PGs.imp pgs_nil fun v σ H Q h => by
  obtain ⟨h1, h2⟩ := h
  cases v with
  | nil => exact ⟨rfl, h2⟩
  | cons a b => cases h1
theorem gn_cons {i : Nat} {is : List Nat} {e : Expr} {es : List Expr} (h1 : PG X e (gName i)) (h2 : PGs X es (gNms is)) (hs : (assignEach (e :: es) X.env).map (·.2) = assign e X.env :: (assignEach es X.env).map (·.2)) : PGs X (e :: es) (gNms (i :: is)) := PGs.imp (pgs_cons h1 h2 hs) fun v σ H Q h => by
  obtain ⟨h1, h2⟩ := h
  cases v with
  | nil => cases h1
  | cons a b => exact ⟨_, _, rfl, by simpa using h1, h2⟩
theorem puts_len : ∀ {is : List Nat} {os : List O} {s1 s2 : St}, puts is os s1 = some s2 → os.length = is.length
  | [], [], _, _, _ => rfl
  | [], _ :: _, _, _, e => by unfold puts at e; cases e
  | _ :: _, [], _, _, e => by unfold puts at e; cases e
  | i :: is, o :: os, s1, s2, e => by
    unfold puts at e
    obtain ⟨s', _, e⟩ := bindE e
    simp [puts_len e]
theorem s_parT {is : List Nat} {tgs : List Expr} {kt k2 : Nat} {pt pt2 : Pos} {es : Es} (hc : X.calm = true) (ht : PGs X tgs (gNms is)) (hn : (assignEach tgs X.env).length = is.length) (hst : (assignEach tgs X.env).findIdx? (·.1) = none) (hz : is.length ≤ sizeLine) (ha : PA X as (tEs Φ X.K es))
    (hw : swappedStores [.Tuple tgs kt pt] (.Tuple as k2 pt2) X.env = pure none) : PS X (.Assign [.Tuple tgs kt pt] (.Tuple as k2 pt2) pos) (tS Φ X.K (.par is es)) := PS.imp (ps_asg (pe_tup ha) (pg_tup hc ht hn hst) rfl hw rfl) fun D σ H h => by
  obtain ⟨F, S, st, A, out, R, e, k⟩ := h
  rw [evS] at e
  obtain ⟨⟨os, s1⟩, h1, e⟩ := bindE e
  obtain ⟨s2, h2, e⟩ := mapE e
  cases e
  refine ⟨F, S, st, A, os, s1, R, h1, fun vs F1 H1 A1 B q => ?_⟩
  have hl : vs.length = is.length := by rw [← PostL.len (F1 := F) (H1 := H) q.own]; exact puts_len h2
  refine ⟨by rw [hl]; exact hz, fun p hp => ⟨p, vs, rfl, .of upd_same, hl, hl, ?_⟩⟩
  have q2 := q.grow (Grow.new (u := .tup vs) q.rel.same hp)
  obtain ⟨A2, t⟩ := puts_ok q2.step q2.rel q2.own q2.nod q2.new h2
  exact k _ _ _ _ t

/-! ### stores -/
theorem PSet.or {X : Cx} {t t' : TSet} (h : PSet X t) (h' : PSet X t') : PSet X (fun o i v H Q => t o i v H Q ∨ t' o i v H Q) := by
  intro pins s σ H o i v ov iv u Q I ro ri rv q
  rcases q with q | q
  · exact h pins s σ H o i v ov iv u Q I ro ri rv q
  · exact h' pins s σ H o i v ov iv u Q I ro ri rv q
theorem own_lst {K : PySem.W.Frag} {F H : Hp} {S : List Addr} {σ : L2.St} {xs : List PyData} {v : V} {B : List Addr} (h : OwnAt K F H S σ (.lst xs) v B) : ∃ a vs, v = .ref a ∧ B = [a] ∧ H a = some (.lst vs) ∧ DenAll K F vs xs := h
theorem own_dct {K : PySem.W.Frag} {F H : Hp} {S : List Addr} {σ : L2.St} {t : Bool} {kvs : KVs} {v : V} {B : List Addr} (h : OwnAt K F H S σ (.dct t kvs) v B) : ∃ a, v = .ref a ∧ B = [a] ∧ DctAt K F H a t kvs := h
theorem own_d {K : PySem.W.Frag} {F H : Hp} {S : List Addr} {σ : L2.St} {x : PyData} {v : V} {B : List Addr} (h : OwnAt K F H S σ (.d x) v B) : B = [] ∧ Den K F v x := h
theorem s_sti {i : Nat} {x : Str} {px : Pos} {pt : Pos} (hu : X.A.units + 66 < cLine) (hi : X.N[i]? = some x) (hv : Vis X.env.scope x) (hd : (x == ("__debug__" : Str)) = false) (hcd : (x == ("__classdict__" : Str)) = false)
    (hk : PE X b (tE Φ X.K eb)) (ha : PE X a (tE Φ X.K ea)) (hs : swapsWithSole [.Subscript (.Name x px) b pt] a pos.line X.env = pure false)
    (hb : ∀ v, assign (.Subscript (.Name x px) b pt) X.env v = (do
      let ov ← holding [v] (eval (.Name x px) X.env)
      let iv ← holding [v, ov] (eval b X.env)
      standAt pt
      holding [v, ov, iv] (setItem ov iv v)
      release [v, ov, iv] [])) :
    PS X (.Assign [.Subscript (.Name x px) b pt] a pos) (tS Φ X.K (.sti i eb ea)) := PS.imp (ps_asg ha (pg_sub (pe_var hi hv hd hcd) hk (PSet.or set_list (set_dict (by omega))) hb) hs rfl rfl) fun D σ H h => by
  obtain ⟨F, S, st, A, out, R, e, k⟩ := h
  rw [evS] at e
  cases h0 : st.ρ[i]? with
  | none => rw [h0] at e; cases e
  | some o0 =>
    cases o0 with
    | none => rw [h0] at e; cases e
    | some o0 =>
      rw [h0] at e
      dsimp only at e
      obtain ⟨v0, hv0, _⟩ := R.slots i o0 h0
      obtain ⟨⟨o1, s1⟩, h1, e⟩ := bindE e
      obtain ⟨⟨o2, s2⟩, h2, e⟩ := bindE e
      obtain ⟨s3, h3, e⟩ := mapE e
      cases e
      refine one_read R h1 fun v F1 H1 A1 B p1 => ⟨v0, hv0, ?_⟩
      dsimp only at h3
      unfold stAt at h3
      split at h3
      · rename_i xs n y q1 q3
        obtain ⟨j, hj, h3⟩ := mapE h3
        cases h3
        obtain ⟨t1, dv⟩ := p1.dat1 q3
        refine one_read t1.rel h2 fun w F2 H2 A2 B2 p2 => .inl ?_
        obtain ⟨v1, g1, g2⟩ := p2.rel.slots i _ q1
        rw [hv0] at g1
        cases g1
        obtain ⟨a', vs, rfl, hA, g3, g4⟩ := own_lst g2
        obtain rfl := own_int p2.own
        refine ⟨a', vs, n, j, rfl, rfl, g3, by rw [g4.length]; exact hj, ?_⟩
        exact k _ _ _ _ ((t1.trans p2.test).putAt q1 hA hv0 ⟨a', _, rfl, rfl, upd_same, (DenAll.set (dv.mono p2.step.fr) j g4)⟩ rfl (.inl ⟨_, upd_same⟩))
      · rename_i t kvs x' y q1 q3
        obtain ⟨kk, hk', h3⟩ := bindE h3
        split at h3
        · rename_i hz
          cases h3
          obtain ⟨t1, dv⟩ := p1.dat1 q3
          refine one_read t1.rel h2 fun w F2 H2 A2 B2 p2 => .inr ?_
          obtain ⟨v1, g1, g2⟩ := p2.rel.slots i _ q1
          rw [hv0] at g1
          cases g1
          obtain ⟨a', rfl, hA, g3⟩ := own_dct g2
          obtain ⟨_, dk⟩ := own_d p2.own
          obtain ⟨u, g5, g6⟩ := dput_of p2.rel.same g3 hk' hz.1 dk (dv.mono p2.step.fr) hz.2
          refine ⟨a', _, rfl, g5, k _ _ _ _ ((t1.trans p2.test).putAt q1 hA hv0 ⟨a', rfl, rfl, g6⟩ rfl ?_)⟩
          cases t with
          | false => obtain ⟨hk, z, _⟩ := g6; exact .inr (.inl ⟨hk, z⟩)
          | true => obtain ⟨hk, z, _⟩ := g6; exact .inr (.inr ⟨hk, z⟩)
        · cases h3
      · cases h3
theorem s_app {i : Nat} {x : Str} {px apos cpos : Pos} (hi : X.N[i]? = some x) (hv : Vis X.env.scope x) (hd : (x == ("__debug__" : Str)) = false) (hcd : (x == ("__classdict__" : Str)) = false) (ha : PE X a (tE Φ X.K ea)) (hline : (apos.endLine == cpos.line) = true)
    (hs : starEach [a] X.env = (false, eval a X.env) :: starEach [] X.env)
    (hfew : ((backTo cpos (starEach [a] X.env)).all (fun x => !x.1) && (backToKw cpos (keywordEach [] X.env)).all (fun x => x.1.isSome) && decide ([a].length + ([] : List Keyword).length + (if ([] : List Keyword).isEmpty then 0 else 1) < 30)) = true) :
    PS X (.Expr (.Call (.Attribute (.Name x px) "append" apos) [a] [] cpos) pos) (tS Φ X.K (.app i ea)) :=
  PS.imp (ps_expr (pe_bm PySem.F.plainAttrs_list PySem.F.slot_list_append PySem.F.type_list_append mt_append (pe_var hi hv hd hcd) (pa_cons ha pa_nil hs) rfl hfew hline hs rfl) rfl) fun D σ H h => by
  obtain ⟨F, S, st, A, out, R, e, k⟩ := h
  rw [evS] at e
  split at e
  · rename_i xs0 h0
    obtain ⟨v0, hv0, ow0⟩ := R.slots i _ h0
    obtain ⟨a0, vs0, rfl, _, g0, _⟩ := own_lst ow0
    obtain ⟨⟨o1, s1⟩, h1, e⟩ := bindE e
    obtain ⟨s2, h2, e⟩ := mapE e
    cases e
    refine ⟨_, hv0, .inl ⟨rfl, vs0, .of g0⟩, one_read R h1 fun v F1 H1 A1 B p1 => ?_⟩
    unfold appAt at h2
    split at h2
    · rename_i xs y q1 q3
      split at h2
      · rename_i hz
        cases h2
        obtain ⟨t1, dv⟩ := p1.dat1 q3
        obtain ⟨v1, g1, g2⟩ := t1.rel.slots i _ q1
        rw [hv0] at g1
        cases g1
        obtain ⟨a', vs, ea', hA, g3, g4⟩ := own_lst g2
        cases ea'
        refine ⟨a0, vs, v, rfl, rfl, g3, by rw [g4.length]; exact hz, ?_⟩
        exact k _ _ _ _ (t1.putAt q1 hA hv0 ⟨a0, _, rfl, rfl, upd_same, g4.snoc dv⟩ rfl (.inl ⟨_, upd_same⟩))
      · cases h2
    · cases h2
  · cases e

/-! ### for -/
theorem s_forr {tg iter : Expr} {body : List Stmt} {et : Tg} {ei : Vm.It} {eb : Ss} (hp : PassesOwn (model X.prog X.w) X.A X.env X.xe) (hc : X.calm = true) (hi : PI X tg iter (tIt Φ X.K ei)) (hg : PG X tg (gT X.K et)) (hb : PSs X body (tSs Φ X.K eb)) (hs : ∀ x, foldedSetIterable iter X.env x = pure x) :
    PS X (.For tg iter body [] pos) (tS Φ X.K (.forr et ei eb)) := PS.imp (ps_for hp hc hi hg hb hs) fun D σ H h => by
  obtain ⟨F, S, st, A, out, R, e, k⟩ := h
  rw [evS] at e
  obtain ⟨⟨xs, s1⟩, h1, e⟩ := bindE e
  dsimp only at e
  generalize hf : (fun (x : PyData) (s : St) => (asg et x s).bind fun s2 => evSs Φ eb s2) = f at e
  refine ⟨F, S, st, A, xs, s1, R, h1, fun J F1 H1 A1 p dl => ⟨fun i m σc Hc => m = xs.length - i ∧ i ≤ xs.length ∧ ∃ Fc stc Ac, Rel X.K Fc Hc S σc stc Ac ∧ Same F1 Fc ∧ forLoop f (xs.drop i) stc = some out ∧ OutOk X.K Fc Hc S σc Ac D out,
    ⟨xs.length, rfl, Nat.zero_le _, F1, s1, A1, p.rel, Same.refl _, by rw [List.drop_zero]; exact e, k.after p⟩, ?_⟩⟩
  rintro i m σc Hc ⟨rfl, hi', Fc, stc, Ac, Rc, fr, hl, kc⟩
  by_cases hlt : i < xs.length
  · have hx : xs[i]? = some xs[i] := List.getElem?_eq_getElem hlt
    have hdr : xs.drop i = xs[i] :: xs.drop (i + 1) := List.drop_eq_getElem_cons hlt
    obtain ⟨go, yl⟩ := (dl Fc Hc fr Rc.same i).1 _ hx
    rw [hdr, forLoop] at hl
    refine .inr ⟨go, fun σ' H' => ∃ Fc stc Ac, Rel X.K Fc H' S σ' stc Ac ∧ Same F1 Fc ∧ forLoop f (xs.drop (i + 1)) stc = some out ∧ OutOk X.K Fc H' S σ' Ac D out, fun σ' H' n => ⟨xs.length - (i + 1), by omega, rfl, hlt, n⟩, fun x H2 y => ?_⟩
    obtain ⟨F2, gr, dx⟩ := yl x H2 y
    cases hfx : f xs[i] stc with
    | none => rw [hfx] at hl; cases hl
    | some o1 =>
      rw [← hf] at hfx
      obtain ⟨s2, ha, hbd⟩ := bindE hfx
      rw [hf] at hfx
      rw [hfx] at hl
      refine ⟨F2, S, stc, Ac, xs[i], s2, Rc.grow gr, dx, ha, fun σ2 A2 p2 => ⟨F2, S, s2, A2, o1, p2.post.rel, hbd, ?_⟩⟩
      have k2 := (kc.after (PostT.grow Rc gr)).after p2.post
      have fr2 : Same F1 F2 := fr.trans gr.fr
      cases o1 with
      | nx s => exact fun σ' F' H' A' q => ⟨F', s, A', q.rel, fr2.trans q.step.fr, hl, k2.after q⟩
      | cnt s => exact fun σ' F' H' A' q => ⟨F', s, A', q.rel, fr2.trans q.step.fr, hl, k2.after q⟩
      | brk s => cases hl; exact k2
      | ret o s => cases hl; exact k2
  · have e' : i = xs.length := by omega
    subst e'
    rw [List.drop_length, forLoop] at hl
    cases hl
    exact .inl ⟨(dl Fc Hc fr Rc.same _).2 (Nat.le_refl _), kc _ _ _ _ (.here Rc)⟩
end
end Vm


set_option Elab.async false
set_option linter.all false
set_option maxRecDepth 100000
set_option maxHeartbeats 4000000
/-! Vm, part 18a: more rules: chains, pop, ranges as lists, enumerate, stars, tuples taken apart. -/
namespace Vm
open PySem PySem.Spec PyProof.Rows L2

section
variable {X : Cx} {Φ : Fs} {a b c : Expr} {ea eb ec : E} {pos p : Pos} {as : List Expr} {es : Es}
theorem ow_nil {K : PySem.W.Frag} {F H F1 H1 : Hp} {S : List Addr} {σ : L2.St} {A A1 : Nat → List Addr} {s1 : St} {x : PyData} {v : V} (p : PostT K F H S σ σ A s1 F1 H1 A1) (d : Den K F1 v x) : Post K F H S σ A (.d x) s1 v F1 H1 A1 [] :=
  ⟨p.step.weak fun b h => h.elim id (fun z => nomatch z), p.rel, ⟨rfl, d⟩, List.nodup_nil, fun _ z => nomatch z⟩
/-! ### a < b < c -/
theorem chain_read {op op' : Cop} {σ : L2.St} {H : Hp} {Q : VK} (h : tE Φ X.K (.chain op op' ea eb ec) σ H Q) : tChain (rOpB X.K (cmpSem op)) (rOpB X.K (cmpSem op')) (tE Φ X.K ea) (tE Φ X.K eb) (tE Φ X.K ec) σ H Q := by
  obtain ⟨F, S, st, A, o, st', R, e, k⟩ := h
  rw [evE] at e
  obtain ⟨⟨x, s1⟩, h1, e⟩ := bindE e
  obtain ⟨⟨y, s2⟩, h2, e⟩ := bindE e
  obtain ⟨w, hw, e⟩ := bindE e
  obtain ⟨u, hu, e⟩ := bindE e
  obtain ⟨r, hr, e⟩ := bindE e
  unfold datO at hw
  split at hw
  case h_2 => cases hw
  cases hw
  refine two_read R h1 h2 fun v v' F' H' A' B C q => ?_
  have dy : Den X.K F' v' w := (own_d q.owny).2
  refine ⟨F', u, .d w, r, q.rel.same, vw_ok q.rel q.ownx hu, .inl dy, hr, r, rfl, ?_⟩
  cases r with
  | false =>
    rw [if_neg Bool.false_ne_true] at e ⊢
    cases e
    exact k _ _ _ _ _ (q.res (.val q.rel.same fun F => .bl _))
  | true =>
    rw [if_pos rfl] at e ⊢
    obtain ⟨⟨z, s3⟩, h3, e⟩ := bindE e
    obtain ⟨q2, hq2, e⟩ := bindE e
    obtain ⟨r', hr', e⟩ := mapE e
    cases e
    refine one_read q.rel h3 fun v3 F3 H3 A3 B3 q3 => ⟨F3, .d w, q2, r', q3.rel.same, .inl (dy.mono q3.step.fr), vw_ok q3.rel q3.own hq2, hr', ?_⟩
    have pt : PostT X.K F H S σ σ A s2 F' H' A' := ⟨q.step.weak fun _ h => .inl h, q.rel⟩
    exact k _ _ _ _ _ (ow_nil (pt.trans q3.test) (.bl _))
theorem e_chain (hu : X.A.units + 66 < cLine) (op op' : Cop) (ha : PE X a (tE Φ X.K ea)) (hb : PE X b (tE Φ X.K eb)) (hc : PE X c (tE Φ X.K ec)) (hm : lastMarks [op.op, op'.op] [b, c] = false) : PE X (.Compare a [op.op, op'.op] [b, c] pos) (tE Φ X.K (.chain op op' ea eb ec)) :=
  PE.imp (pe_chain (cop_ok hu op) (cop_ok hu op') ha hb hc hm) fun σ H Q h => chain_read h
theorem t_chain (hu : X.A.units + 66 < cLine) (op op' : Cop) (ha : PE X a (tE Φ X.K ea)) (hb : PE X b (tE Φ X.K eb)) (hc : PE X c (tE Φ X.K ec)) (hm : lastMarks [op.op, op'.op] [b, c] = false) : PT X (.Compare a [op.op, op'.op] [b, c] pos) (tT Φ X.K (.v (.chain op op' ea eb ec))) :=
  PT.imp (pt_chain (cop_ok hu op) (cop_ok hu op') ha hb hc hm) fun σ H Q h => by
  obtain ⟨F, S, st, A, o, st', R, e, k⟩ := h
  rw [evT] at e
  obtain ⟨⟨z, s3⟩, e0, e⟩ := bindE e
  obtain ⟨u1, hu1, e⟩ := bindE e
  obtain ⟨b1, hb1, e⟩ := mapE e
  cases e
  have zb : ∃ r, z = .d (.bool r) := by
    rw [evE] at e0
    obtain ⟨⟨x, s1⟩, h1, e0⟩ := bindE e0
    obtain ⟨⟨y, s2⟩, h2, e0⟩ := bindE e0
    obtain ⟨w, hw, e0⟩ := bindE e0
    obtain ⟨u, hu, e0⟩ := bindE e0
    obtain ⟨r, hr, e0⟩ := bindE e0
    cases r with
    | false => rw [if_neg Bool.false_ne_true] at e0; cases e0; exact ⟨_, rfl⟩
    | true =>
      rw [if_pos rfl] at e0
      obtain ⟨⟨z', s3'⟩, h3, e0⟩ := bindE e0
      obtain ⟨q2, hq2, e0⟩ := bindE e0
      obtain ⟨r', hr', e0⟩ := mapE e0
      cases e0
      exact ⟨_, rfl⟩
  obtain ⟨r, rfl⟩ := zb
  cases hu1
  cases hb1
  exact chain_read (Q := fun x H' => ∃ k, x = V.bl k ∧ Q k H') ⟨F, S, st, A, _, _, R, e0, fun v F' H' A' B q => ⟨_, own_bl q.own, k _ _ _ q.test⟩⟩
/-! ### pop -/
theorem e_popi {i : Nat} {x : Str} {px apos cpos : Pos} (hi : X.N[i]? = some x) (hv : Vis X.env.scope x) (hd : (x == ("__debug__" : Str)) = false) (hcd : (x == ("__classdict__" : Str)) = false) (ha : PE X a (tE Φ X.K ea)) (hline : (apos.endLine == cpos.line) = true)
    (hs : starEach [a] X.env = (false, eval a X.env) :: starEach [] X.env)
    (hfew : ((backTo cpos (starEach [a] X.env)).all (fun x => !x.1) && (backToKw cpos (keywordEach [] X.env)).all (fun x => x.1.isSome) && decide ([a].length + ([] : List Keyword).length + (if ([] : List Keyword).isEmpty then 0 else 1) < 30)) = true) :
    PE X (.Call (.Attribute (.Name x px) "pop" apos) [a] [] cpos) (tE Φ X.K (.popi i ea)) :=
  PE.imp (pe_bm PySem.F.plainAttrs_list PySem.F.slot_list_pop PySem.F.type_list_pop mt_popAt (pe_var hi hv hd hcd) (pa_cons ha pa_nil hs) rfl hfew hline hs rfl) fun σ H Q h => by
  obtain ⟨F, S, st, A, o, st', R, e, k⟩ := h
  rw [evE] at e
  split at e
  · rename_i xs0 h0
    obtain ⟨v0, hv0, ow0⟩ := R.slots i _ h0
    obtain ⟨a0, vs0, rfl, _, g0, _⟩ := own_lst ow0
    obtain ⟨⟨o1, s1⟩, h1, e⟩ := bindE e
    refine ⟨_, hv0, .inl ⟨rfl, vs0, .of g0⟩, one_read R h1 fun v F1 H1 A1 B p1 => ?_⟩
    dsimp only at e
    split at e
    · rename_i n
      obtain rfl := own_int p1.own
      unfold popAt at e
      split at e
      · rename_i xs q1
        split at e
        · rename_i hz
          obtain ⟨j, hj, e⟩ := bindE e
          obtain ⟨y, hy, e⟩ := mapE e
          cases e
          have t1 := p1.test
          obtain ⟨v1, g1, g2⟩ := t1.rel.slots i _ q1
          rw [hv0] at g1
          cases g1
          obtain ⟨a', vs, ea', hA, g3, g4⟩ := own_lst g2
          cases ea'
          obtain ⟨yv, hyv, dy⟩ := g4.get hy
          refine ⟨a0, vs, n, j, yv, rfl, rfl, g3, hz.1, hz.2, by rw [g4.length]; exact hj, hyv, ?_⟩
          have pt := t1.putAt (o' := .lst (xs.eraseIdx j)) (u := .lst (vs.eraseIdx j)) q1 hA hv0 ⟨a0, _, rfl, rfl, upd_same, DenAll.erase j g4⟩ rfl (.inl ⟨_, upd_same⟩)
          exact k _ _ _ _ _ (ow_nil pt dy)
        · cases e
      · cases e
    · cases e
  · cases e
/-! ### list(range(..)), tuple(range(..)) -/
theorem rg_den {K : PySem.W.Frag} {F : Hp} (i j : Int) : DenAll K F (rgV i j) (rngD i (j - i).toNat) := by
  unfold rgV rngD
  induction (List.range (j - i).toNat) with
  | nil => exact .nil
  | cons x xs ih => exact .cons (.int _) ih
theorem rg_den0 {K : PySem.W.Frag} {F : Hp} (j : Int) : DenAll K F (rgV 0 j) (rngD 0 j.toNat) := by
  have := rg_den (K := K) (F := F) 0 j
  rwa [Int.sub_zero] at this
theorem rg_ok {i j : Int} (h : (inBnd i && inBnd j && decide ((j - i).toNat ≤ sizeLine)) = true) : RgOk i j := by
  rw [Bool.and_eq_true, Bool.and_eq_true, decide_eq_true_eq] at h
  obtain ⟨z1, z2⟩ := bnd_of h.1.1
  obtain ⟨z3, z4⟩ := bnd_of h.1.2
  exact ⟨z1, z2, z3, z4, h.2⟩
theorem e_rng0 {l : Bool} {p2 pos2 : Pos} (hc : X.calm = true) (hg : Gl X (if l then "list" else "tuple")) (hm : X.mg (if l then "list" else "tuple") = none) (hg2 : Gl X "range") (hm2 : X.mg "range" = none) (ha : PE X a (tE Φ X.K ea)) (na : starEach [a] X.env = (false, eval a X.env) :: starEach [] X.env) :
    PE X (.Call (.Name (if l then "list" else "tuple") p) [.Call (.Name "range" p2) [a] [] pos2] [] pos) (tE Φ X.K (.rng0 l ea)) := by
  cases l with
  | true =>
    refine PE.imp (pe_listRg hc hg hm (prg_1 hg2 hm2 ha na)) fun σ H Q h => ?_
    obtain ⟨F, S, st, A, o, st', R, e, k⟩ := h
    rw [evE] at e
    obtain ⟨⟨x, s1⟩, h1, e⟩ := bindE e
    refine one_read R h1 fun v F1 H1 A1 B q => ?_
    dsimp only at e
    split at e
    · split at e
      · rename_i j hz
        cases e
        rw [if_pos rfl] at k
        refine ⟨j, own_int q.own, ?_, fun l hl => ?_⟩
        · refine rg_ok (i := 0) ?_
          rw [Bool.and_eq_true, decide_eq_true_eq] at hz
          rw [hz.1, Int.sub_zero, decide_eq_true hz.2]
          rfl
        · exact k _ _ _ _ _ (q.test.res (.lst q.rel.same hl (rg_den0 j)))
      · cases e
    · cases e
  | false =>
    refine PE.imp (pe_tupRg hc hg hm (prg_1 hg2 hm2 ha na)) fun σ H Q h => ?_
    obtain ⟨F, S, st, A, o, st', R, e, k⟩ := h
    rw [evE] at e
    obtain ⟨⟨x, s1⟩, h1, e⟩ := bindE e
    refine one_read R h1 fun v F1 H1 A1 B q => ?_
    dsimp only at e
    split at e
    · split at e
      · rename_i j hz
        cases e
        rw [if_neg Bool.false_ne_true] at k
        refine ⟨j, own_int q.own, ?_, fun l hl => ?_⟩
        · refine rg_ok (i := 0) ?_
          rw [Bool.and_eq_true, decide_eq_true_eq] at hz
          rw [hz.1, Int.sub_zero, decide_eq_true hz.2]
          rfl
        · exact k _ _ _ _ _ (q.test.res (.tup q.rel.same hl (rg_den0 j)))
      · cases e
    · cases e
theorem e_rng {l : Bool} {p2 pos2 : Pos} (hc : X.calm = true) (hg : Gl X (if l then "list" else "tuple")) (hm : X.mg (if l then "list" else "tuple") = none) (hg2 : Gl X "range") (hm2 : X.mg "range" = none) (ha : PE X a (tE Φ X.K ea)) (hb : PE X b (tE Φ X.K eb))
    (na : starEach [a, b] X.env = (false, eval a X.env) :: starEach [b] X.env) (nb : starEach [b] X.env = (false, eval b X.env) :: starEach [] X.env) (hp : (backTo pos2 (starEach [b] X.env)).any (·.1) = false) :
    PE X (.Call (.Name (if l then "list" else "tuple") p) [.Call (.Name "range" p2) [a, b] [] pos2] [] pos) (tE Φ X.K (.rng l ea eb)) := by
  cases l with
  | true =>
    refine PE.imp (pe_listRg hc hg hm (prg_2 hg2 hm2 ha hb na nb hp)) fun σ H Q h => ?_
    obtain ⟨F, S, st, A, o, st', R, e, k⟩ := h
    rw [evE] at e
    obtain ⟨⟨x, s1⟩, h1, e⟩ := bindE e
    obtain ⟨⟨y, s2⟩, h2, e⟩ := bindE e
    refine two_read R h1 h2 fun v w F1 H1 A1 B C q => ?_
    dsimp only at e
    split at e
    · split at e
      · rename_i hz
        cases e
        rw [if_pos rfl] at k
        have pt : PostT X.K F H S σ σ A st' F1 H1 A1 := ⟨q.step.weak fun _ h => .inl h, q.rel⟩
        exact ⟨_, _, own_int q.ownx, own_int q.owny, rg_ok hz, fun l hl => k _ _ _ _ _ (pt.res (.lst q.rel.same hl (rg_den _ _)))⟩
      · cases e
    · cases e
  | false =>
    refine PE.imp (pe_tupRg hc hg hm (prg_2 hg2 hm2 ha hb na nb hp)) fun σ H Q h => ?_
    obtain ⟨F, S, st, A, o, st', R, e, k⟩ := h
    rw [evE] at e
    obtain ⟨⟨x, s1⟩, h1, e⟩ := bindE e
    obtain ⟨⟨y, s2⟩, h2, e⟩ := bindE e
    refine two_read R h1 h2 fun v w F1 H1 A1 B C q => ?_
    dsimp only at e
    split at e
    · split at e
      · rename_i hz
        cases e
        rw [if_neg Bool.false_ne_true] at k
        have pt : PostT X.K F H S σ σ A st' F1 H1 A1 := ⟨q.step.weak fun _ h => .inl h, q.rel⟩
        exact ⟨_, _, own_int q.ownx, own_int q.owny, rg_ok hz, fun l hl => k _ _ _ _ _ (pt.res (.tup q.rel.same hl (rg_den _ _)))⟩
      · cases e
    · cases e
/-! ### enumerate -/
theorem enumD_get : ∀ {xs : List PyData} {n : Int} {i : Nat} {d : PyData}, (enumD n xs)[i]? = some d → ∃ x, xs[i]? = some x ∧ d = .tuple [.int (n + i), x]
  | [], _, _, _, h => by simp [enumD] at h
  | x :: xs, n, 0, d, h => ⟨x, rfl, by simpa [enumD] using h.symm⟩
  | x :: xs, n, i + 1, d, h => by
    obtain ⟨u, h1, h2⟩ := enumD_get (xs := xs) (n := n + 1) (i := i) (d := d) (by simpa [enumD] using h)
    refine ⟨u, by simpa using h1, ?_⟩
    rw [h2, show n + 1 + (i : Int) = n + ((i + 1 : Nat) : Int) by omega]
theorem enumD_len : ∀ (xs : List PyData) (n : Int), (enumD n xs).length = xs.length
  | [], _ => rfl
  | x :: xs, n => by rw [enumD, List.length_cons, enumD_len xs, List.length_cons]
theorem dlv_enum {K : PySem.W.Frag} {F : Hp} {a : Addr} {vs : List V} {xs : List PyData} (h : F a = some (.lst vs)) (hd : DenAll K F vs xs) : Dlv K (Ite K a) (enumD 0 xs) F := by
  intro F1 H1 e1 e2 i
  have h1 := e2 _ _ (e1 _ _ h)
  refine ⟨fun d hi => ?_, fun hi => ⟨vs, .of h1, ?_⟩⟩
  · obtain ⟨x, hx, rfl⟩ := enumD_get hi
    obtain ⟨v, hv, dv⟩ := hd.get hx
    refine ⟨⟨vs, v, .of h1, hv⟩, fun z H2 q => ?_⟩
    obtain ⟨T, x', rfl, hT, rfl, f1⟩ := q
    have a1 := f1 vs (.of h1)
    rw [hv] at a1
    cases a1
    have g : Grow F1 H1 (upd F1 T (.tup [.int (i : Nat), v])) (upd H1 T (.tup [.int (i : Nat), v])) := Grow.newF e2 hT
    exact ⟨_, g, .tup upd_same (.cons (by rw [Int.zero_add]; exact .int _) (.cons (dv.mono (e1.trans g.fr)) .nil))⟩
  · rw [hd.length]
    rw [enumD_len] at hi
    exact hi
theorem i_enum {elts : List Expr} {kk : Nat} {tpos : Pos} (hg : Gl X "enumerate") (hm : X.mg "enumerate" = none) (ha : PE X a (tE Φ X.K ea)) (hs : starEach [a] X.env = [(false, eval a X.env)]) :
    PI X (.Tuple elts kk tpos) (.Call (.Name "enumerate" p) [a] [] pos) (tIt Φ X.K (.enum ea)) := PI.imp (pi_enum hg hm (pa_cons ha pa_nil hs) hs) fun σ H Q h => by
  obtain ⟨F, S, st, A, xs, st', R, e, k⟩ := h
  rw [evIt] at e
  obtain ⟨⟨x, s1⟩, h1, e⟩ := bindE e
  obtain ⟨o, h2, e⟩ := bindE e
  obtain ⟨ys, h3, e⟩ := mapE e
  cases e
  cases o with
  | list ds =>
    cases h3
    refine one_read R h1 fun v F' H' A' B q => ?_
    obtain ⟨t, d⟩ := q.dat1 h2
    obtain ⟨a', vs, rfl, g1, g2⟩ := d.lst_of
    exact ⟨a', vs, rfl, .of (t.rel.same _ _ g1), k _ _ _ _ t (dlv_enum g1 g2)⟩
  | tuple ds => cases h3
  | none => cases h3
  | bool z => cases h3
  | int z => cases h3
  | str z => cases h3
  | dict z => cases h3
/-! ### *e in a display -/
theorem own_all {K : PySem.W.Frag} {F H : Hp} {S : List Addr} {σ : L2.St} : ∀ {vs : List V} {xs : List PyData}, DenAll K F vs xs → OwnAll K F H S σ (xs.map .d) vs []
  | [], [], .nil => .nil
  | v :: vs, x :: xs, .cons h t => by
    have := OwnAll.cons (o := .d x) (B := []) ⟨rfl, h⟩ (own_all (H := H) (S := S) (σ := σ) t)
    simpa using this
theorem OwnAll.append {K : PySem.W.Frag} {F H : Hp} {S : List Addr} {σ : L2.St} : ∀ {os ps : List O} {vs ws : List V} {B C : List Addr}, OwnAll K F H S σ os vs B → OwnAll K F H S σ ps ws C → OwnAll K F H S σ (os ++ ps) (vs ++ ws) (B ++ C)
  | _, _, _, _, _, _, .nil, h => h
  | _, _, _, _, _, _, .cons (B := B) (Bs := Bs) h t, g => by
    have := OwnAll.cons h (OwnAll.append t g)
    rw [← List.append_assoc] at this
    exact this
theorem star_den {K : PySem.W.Frag} {F H : Hp} {S : List Addr} {σ : L2.St} {o : O} {v : V} {B : List Addr} {ps : List O} (s : Same F H) (h : OwnAt K F H S σ o v B) (e : starO o = some ps) :
    B = [] ∧ ∃ a vs xs, v = .ref a ∧ ps = xs.map .d ∧ (SqT K H a vs ∨ SqL K H a vs) ∧ DenAll K F vs xs := by
  unfold starO at e
  split at e
  · cases e
    obtain ⟨h0, h⟩ := own_d h
    obtain ⟨a, vs, rfl, g1, g2⟩ := h.tup_of
    exact ⟨h0, a, vs, _, rfl, rfl, .inl (g1.mono s).sq, g2⟩
  · cases e
    obtain ⟨h0, a, vs, ob, rfl, h1, h2, _, h4⟩ := (show _ ∧ _ from h)
    exact ⟨h0, a, vs, _, rfl, rfl, .inl ((TpAt.mono (.inr ⟨ob, h1, h2⟩) s).sq), h4⟩
  · cases e
    obtain ⟨h0, h⟩ := own_d h
    obtain ⟨a, vs, rfl, g1, g2⟩ := h.lst_of
    exact ⟨h0, a, vs, _, rfl, rfl, .inr (.of (s _ _ g1)), g2⟩
  · cases e
theorem a_star (ha : PE X a (tE Φ X.K ea)) (hr : PA X as (tEs Φ X.K es)) : PA X (.Starred a p :: as) (tEs Φ X.K (.star ea es)) := PA.imp (StX.pa_star ha hr) fun σ H Q h => by
  obtain ⟨F, S, st, A, os, st', R, e, k⟩ := h
  rw [evEs] at e
  obtain ⟨⟨o, s1⟩, h1, e⟩ := bindE e
  obtain ⟨ps, h0, e⟩ := bindE e
  obtain ⟨⟨os', s2⟩, h2, e⟩ := mapE e
  cases e
  refine ⟨F, S, st, A, o, s1, R, h1, fun v F1 H1 A1 B q => ?_⟩
  obtain ⟨rfl, a', vs, xs, rfl, rfl, hq, hd⟩ := star_den q.rel.same q.own h0
  refine ⟨a', vs, rfl, hq, F1, S, s1, A1, os', _, q.rel, h2, fun ws F2 H2 A2 C r => k (vs ++ ws) F2 H2 A2 C ?_⟩
  refine ⟨?_, r.rel, ?_, r.nod, r.new⟩
  · exact (q.test.step.trans r.step)
  · have := OwnAll.append (own_all (H := H2) (S := S) (σ := σ) (hd.mono r.step.fr)) r.own
    simpa using this
/-! ### a, b = e -/
theorem s_unp {tgs : List Expr} {kt : Nat} {pt : Pos} {ts : Tgs} (hg : PG X (.Tuple tgs kt pt) (gT X.K (.tp ts))) (ha : PE X a (tE Φ X.K ea)) (hs : swapsWithSole [.Tuple tgs kt pt] a pos.line X.env = pure false) (hw : swappedStores [.Tuple tgs kt pt] a X.env = pure none) :
    PS X (.Assign [.Tuple tgs kt pt] a pos) (tS Φ X.K (.unp ts ea)) := PS.imp (ps_asg ha hg hs hw rfl) fun D σ H h => by
  obtain ⟨F, S, st, A, out, R, e, k⟩ := h
  rw [evS] at e
  obtain ⟨⟨o, s1⟩, h1, e⟩ := bindE e
  obtain ⟨d, h2, e⟩ := bindE e
  obtain ⟨s2, h3, e⟩ := mapE e
  cases e
  refine one_read R h1 fun v F1 H1 A1 B q => ?_
  obtain ⟨t, dv⟩ := q.dat1 h2
  exact ⟨_, S, s1, A1, d, s2, t.rel, dv, h3, fun σ' A' z => k _ _ _ _ (t.trans z.post)⟩
/-! ### dict(list of pairs), its keys numbers and texts -/
theorem seqL_ok {K : PySem.W.Frag} {F H : Hp} {S : List Addr} {σ : L2.St} {st : St} {A : Nat → List Addr} {o : O} {v : V} {B : List Addr} {xs : List PyData} (R : Rel K F H S σ st A) (h : OwnAt K F H S σ o v B) (e : seqL st o = some xs) :
    ∃ a vs, v = .ref a ∧ SqL K H a vs ∧ DenAll K F vs xs := by
  unfold seqL at e
  split at e
  all_goals try contradiction
  · cases e
    obtain ⟨a, vs, rfl, _, h1, h2⟩ := (show ∃ a vs, _ from h)
    exact ⟨a, vs, rfl, .of h1, h2⟩
  · cases e
    obtain ⟨_, h⟩ := (show _ ∧ _ from h)
    cases h with
    | lst h1 h2 => exact ⟨_, _, rfl, .of (R.same _ _ h1), h2⟩
  · rename_i i
    split at e
    · rename_i xs' q
      cases e
      obtain ⟨v', h1, h2⟩ := R.slots i _ q
      have e1 : σ[i]? = some (some v) := (show _ ∧ _ from h).2
      rw [h1] at e1
      cases e1
      obtain ⟨a, vs, rfl, _, h3, h4⟩ := (show ∃ a vs, _ from h2)
      exact ⟨a, vs, rfl, .of h3, h4⟩
    · cases e
theorem pairs_tabK {K : PySem.W.Frag} {F H : Hp} (e : Same F H) : ∀ {xs : List PyData} {vs : List V} {ps : List (PyData × PyData)} {acc kvs : KVs}, DenAll K F vs xs → pairsOf xs = some ps → dictOf false ps acc = some kvs →
    ∃ (as : List Addr) (l : List (Key × V)) (ds : List PyData), vs = as.map V.ref ∧ Paired (fun p q => SqT K H p [kV q.1, q.2]) as l ∧ DenAll K F (l.map (·.2)) ds ∧ kvs = (l.zip ds).foldl (fun a q => kvPut a (.k q.1.1) q.2) acc
  | [], _, _, _, _, .nil, h, g => by
    cases h
    cases g
    exact ⟨[], [], [], rfl, .nil, .nil, rfl⟩
  | x :: xs, v :: vs, ps, acc, kvs, .cons h1 h2, h, g => by
    unfold pairsOf at h
    split at h
    · cases ‹_ :: _ = []›
    · rename_i a b xs' ez
      obtain ⟨ex, exs⟩ := List.cons.inj ez
      subst ex exs
      obtain ⟨ps', hp, rfl⟩ := mapE h
      unfold dictOf at g
      cases ek : toDK a with
      | none => rw [ek] at g; cases g
      | some k =>
        rw [ek] at g
        simp only at g
        split at g
        · rename_i ht
          cases k with
          | t y => cases ht
          | k y =>
            obtain ⟨T, ws, rfl, tp, hall⟩ : ∃ T ws, v = .ref T ∧ TpAt H T ws ∧ DenAll K F ws [a, b] := by
              cases h1 with
              | tup hT hall => exact ⟨_, _, rfl, .inl (e _ _ hT), hall⟩
              | ftup hT d n hall => exact ⟨_, _, rfl, .inr ⟨_, e _ _ hT, d⟩, hall⟩
            cases hall with
            | cons ha hall =>
              cases hall with
              | cons hb hall =>
                cases hall
                rename_i va vb
                have hk := key_k ek ha
                subst hk
                obtain ⟨as, l, ds, k1, k2, k3, k4⟩ := pairs_tabK e h2 hp g
                exact ⟨T :: as, (y, vb) :: l, b :: ds, by rw [k1]; rfl, .cons tp.sq k2, .cons hb k3, k4⟩
        · cases g
    · cases h
theorem merge_kvr {K : PySem.W.Frag} {F : Hp} : ∀ {l : List (Key × V)} {ds : List PyData} {hk : List (Key × V)} {acc : KVs}, DenAll K F (l.map (·.2)) ds → KVr K F hk acc → KVr K F (mergeK hk l) ((l.zip ds).foldl (fun a q => kvPut a (.k q.1.1) q.2) acc)
  | [], [], _, _, .nil, h => h
  | (y, v) :: l, d :: ds, hk, acc, .cons h1 h2, h => merge_kvr (l := l) (hk := L2.putK hk y v) (acc := kvPut acc (.k y) d) h2 (Paired.putK DK.k dk_inj h y h1)
theorem e_dofK {x : Str} (hc : X.calm = true) (hg : Gl X x) (hm : X.mg x = none) (hv : bootBuiltins x = some (.type "dict")) (ha : PE X a (tE Φ X.K ea)) (hn : x ≠ "__name__") (hdb : (x == ("__debug__" : Str)) = false)
    (he : starEach [a] X.env = (false, eval a X.env) :: starEach [] X.env) : PE X (.Call (.Name x p) [a] [] pos) (tE Φ X.K (.dof false ea)) := by
  refine PE.imp (pe_callTy (call_dictP hc) hg hm hv (pa_cons ha pa_nil he) hn hdb he rfl) fun σ H Q h => ?_
  obtain ⟨F, S, st, A, o, st', R, e, k⟩ := h
  rw [evE] at e
  obtain ⟨⟨x, s1⟩, h1, e⟩ := bindE e
  dsimp only at e
  rw [if_neg Bool.false_ne_true] at e
  obtain ⟨xs, h2, e⟩ := bindE e
  obtain ⟨ps, h3, e⟩ := bindE e
  obtain ⟨kvs, h4, e⟩ := mapE e
  cases e
  refine one_read R h1 fun v F' H' A' B q => ?_
  obtain ⟨a', vs, rfl, hq, hd⟩ := seqL_ok q.rel q.own h2
  obtain ⟨as, l, ds, rfl, p1, p2, rfl⟩ := pairs_tabK q.rel.same hd h3 h4
  refine ⟨a', as, l, rfl, hq, p1, fun b hb => k _ _ _ _ _ (q.test.res ⟨Grow.new q.rel.same hb, ⟨b, rfl, rfl, _, upd_same, merge_kvr p2 .nil⟩, by simp, fun z hz => ?_⟩)⟩
  have ez : z = b := by simpa using hz
  subst ez
  exact ⟨hb, q.rel.same.free hb, .inr (.inl ⟨_, upd_same⟩)⟩
/-! ### x += e -/
theorem s_aug {i : Nat} {x : Str} {px : Pos} {op : Bop} (hop : op = .add ∨ op = .sub) (hN : X.N.Nodup) (hi : X.N[i]? = some x) (hx : Loc X.env.scope x) (ha : PE X a (tE Φ X.K ea)) (hf : X.fn x = true ∨ X.env.scope.names.lookup x = some .local) :
    PS X (.AugAssign (.Name x px) op.op a pos) (tS Φ X.K (.aug i op ea)) := by
  have go : ∀ (f : Int → Int → Int) (bop : Operator), PIp X bop (ipI f) → (∀ m n, augSem op (.int m) (.int n) = some (.int (f m n))) → (∀ x y z, augSem op x y = some z → ∃ m n, x = .int m ∧ y = .int n) → op.op = bop → PS X (.AugAssign (.Name x px) op.op a pos) (tS Φ X.K (.aug i op ea)) := by
    intro f bop hp hs hs2 eb
    rw [eb]
    refine PS.imp (ps_aug hN hi hx ha hp hf) fun D σ H h => ?_
    obtain ⟨F, S, st, A, out, R, e, k⟩ := h
    rw [evS] at e
    split at e
    · rename_i xd h0
      obtain ⟨⟨o1, s1⟩, h1, e⟩ := bindE e
      dsimp only at e
      split at e
      · rename_i yd
        obtain ⟨z, h2, e⟩ := bindE e
        obtain ⟨s2, h3, e⟩ := mapE e
        cases e
        obtain ⟨m, n, rfl, rfl⟩ := hs2 _ _ _ h2
        rw [hs] at h2
        cases h2
        obtain ⟨v0, hv0, ow0⟩ := R.slots i _ h0
        obtain rfl := own_int ow0
        refine ⟨_, hv0, one_read R h1 fun v F1 H1 A1 B q => ?_⟩
        obtain rfl := own_int q.own
        exact ⟨m, n, rfl, rfl, k _ _ _ _ ((ow_nil q.test (.int (f m n))).put h3)⟩
      · cases e
    · cases e
  rcases hop with rfl | rfl
  · refine go (fun i j => i + j) .Add ip_add (fun _ _ => rfl) (fun x y z h => ?_) rfl
    unfold augSem at h
    split at h
    all_goals try cases h
    all_goals exact ⟨_, _, rfl, rfl⟩
  · refine go (fun i j => i - j) .Sub ip_sub (fun _ _ => rfl) (fun x y z h => ?_) rfl
    unfold augSem at h
    split at h
    all_goals try cases h
    all_goals exact ⟨_, _, rfl, rfl⟩
/-! ### x[k] += e -/
theorem getAt_some {st : Vm.St} {i : Nat} {o : O} {x : PyData} (h : getAt st i o = some x) : ∃ kd q u, o = .d kd ∧ st.ρ[i]? = some (some q) ∧ vw0 q = some u ∧ idxSem u (.d kd) = some (.d x) := by
  unfold getAt at h
  split at h
  · rename_i xs n q1
    exact ⟨_, _, _, rfl, q1, rfl, by show (atI xs n).map O.d = _; rw [h]; rfl⟩
  · rename_i t kvs kd q1
    obtain ⟨q, h1, h2⟩ := bindE h
    refine ⟨_, _, _, rfl, q1, rfl, ?_⟩
    show ((toDK kd).bind fun k => if k.tk = t then (kvGet kvs k).map O.d else none) = _
    rw [h1, Option.bind_some]
    split at h2
    · rename_i hz
      rw [if_pos hz, h2]; rfl
    · cases h2
  · cases h
theorem get_list : PGet X (rIxL X.K) := by
  intro pins s σ H x y v u Q I rx ry h
  obtain ⟨p, xs, i, z, rfl, rfl, hq, he, q⟩ := h
  cases rx
  obtain ⟨t, rfl⟩ := ry
  obtain ⟨its, r, pl, hz⟩ := I.list hq
  obtain ⟨j, h1, h2, h3, h4, h5⟩ := atI_get he
  obtain ⟨w, ew, rw'⟩ := r.get h2
  have hl := r.length
  have hn := line63
  have fin : EP X pins σ Q w s := ⟨z, H, I, rw', q⟩
  by_cases h0 : 0 ≤ i
  · have hj : i.toNat = j := by
      rw [seqIndex_of h0 h5] at h1
      exact Option.some.inj h1
    exact wpAny_getItem_list pl.isList h0 (by omega) (by rw [hj]; simpa using ew) fin
  · have hj : (i + (its.toArray.size : Int)).toNat = j := by
      rw [seqIndex_neg (by omega) h4] at h1
      rw [List.size_toArray, ← hl]
      exact Option.some.inj h1
    exact wpAny_getItem_list_neg pl.isList (by omega) (by rw [List.size_toArray] <;> omega) (by omega) (by rw [hj]; simpa using ew) fin
def rIxD (K : PySem.W.Frag) : R2 := fun x y H Q => rIxL K x y H Q ∨ ∃ a v, x = .ref a ∧ DGet H a y (some v) ∧ Q v H
theorem get_any (hu : X.A.units + 66 < cLine) : PGet X (rIxD X.K) := by
  intro pins s σ H x y v u Q I rx ry h
  rcases h with h | ⟨a, w, rfl, g, q⟩
  · exact get_list pins s σ H x y v u Q I rx ry h
  · cases rx
    exact d_getItem (by omega) I g ry fun w' s' I' r' => ⟨w, H, I', r', q⟩
theorem s_aui {i : Nat} {x : Str} {px pt : Pos} {op : Bop} (hop : op = .add ∨ op = .sub) (hu : X.A.units + 66 < cLine) (hi : X.N[i]? = some x) (hv : Vis X.env.scope x) (hd : (x == ("__debug__" : Str)) = false) (hcd : (x == ("__classdict__" : Str)) = false)
    (hk : PE X b (tE Φ X.K eb)) (ha : PE X a (tE Φ X.K ea)) (hb : ∀ ov iv new, augStore b ov iv new = (do holding [new, ov, iv] (setItem ov iv new); release [new, ov, iv] []; pure .next)) : PS X (.AugAssign (.Subscript (.Name x px) b pt) op.op a pos) (tS Φ X.K (.aui i eb op ea)) := by
  have go : ∀ (f : Int → Int → Int) (bop : Operator), PIp X bop (ipI f) → (∀ m n, augSem op (.int m) (.int n) = some (.int (f m n))) → (∀ x y z, augSem op x y = some z → ∃ m n, x = .int m ∧ y = .int n) → op.op = bop → PS X (.AugAssign (.Subscript (.Name x px) b pt) op.op a pos) (tS Φ X.K (.aui i eb op ea)) := by
    intro f bop hp hs hs2 eb'
    rw [eb']
    refine PS.imp (ps_augS (pe_var hi hv hd hcd) hk (get_any hu) ha hp (PSet.or set_list (set_dict (by omega))) hb) fun D σ H h => ?_
    obtain ⟨F, S, st, A, out, R, e, k⟩ := h
    rw [evS] at e
    split at e
    case h_2 => cases e
    rename_i o0 h0
    obtain ⟨v0, hv0, _⟩ := R.slots i o0 h0
    obtain ⟨⟨o1, s1⟩, h1, e⟩ := bindE e
    obtain ⟨xd, hx, e⟩ := bindE e
    obtain ⟨⟨o2, s2⟩, h2, e⟩ := bindE e
    dsimp only at e
    split at e
    case h_2 => cases e
    rename_i yd
    obtain ⟨z, hz, e⟩ := bindE e
    obtain ⟨s3, h3, e⟩ := mapE e
    cases e
    obtain ⟨m, n, rfl, rfl⟩ := hs2 _ _ _ hz
    rw [hs] at hz
    cases hz
    obtain ⟨kd, q0, u0, rfl, r1, r2, r3⟩ := getAt_some hx
    refine ⟨v0, hv0, one_read R h1 fun kv F1 H1 A1 B1 p1 => ?_⟩
    obtain ⟨_, dk⟩ := own_d p1.own
    obtain ⟨v1, g1, g2⟩ := p1.rel.slots i _ r1
    rw [hv0] at g1
    cases g1
    have reach : ∀ {Q : VK}, (∀ v F' H' B, ResAt X.K F1 H1 (.d (.int m)) v F' H' B → Q v H') → rIxD X.K v0 kv H1 Q := fun {Q} kk => by
      unfold getAt at hx
      split at hx
      · rename_i xs n1 q1 q2
        cases q2
        rw [q1] at r1
        cases r1
        obtain ⟨a', vs, e6, _, g3, g4⟩ := own_lst g2
        obtain ⟨v, e2, e3⟩ := atI_den g4 hx
        have ek : kv = .int n1 := by cases dk; rfl
        exact .inl ⟨a', vs, n1, v, e6, ek, .of g3, e2, kk _ _ _ _ (.old p1.rel.same e3)⟩
      · rename_i t kvs kd' q1 q2
        cases q2
        rw [q1] at r1
        cases r1
        obtain ⟨q, e1, hx⟩ := bindE hx
        split at hx
        · rename_i zt
          obtain ⟨a', e6, _, g3⟩ := own_dct g2
          obtain ⟨o, g, f⟩ := dget_of p1.rel.same g3 e1 zt ((show VwAt X.K F1 H1 kv (.d kd) from .inl dk).key e1)
          rw [hx] at f
          cases o with
          | none => exact f.elim
          | some v => exact .inr ⟨a', v, e6, g, kk _ _ _ _ (.old p1.rel.same f)⟩
        · cases hx
      · cases hx
    refine reach fun gv F' H' B' rs => ?_
    have p1' := p1.test.res rs
    obtain rfl := own_int p1'.own
    have dk' := dk.mono rs.grow.fr
    refine one_read p1'.rel h2 fun ev F2 H2 A2 B2 p2 => ?_
    obtain rfl := own_int p2.own
    refine ⟨m, n, rfl, rfl, ?_⟩
    have t2 := p1'.test.trans p2.test
    have dk2 := dk'.mono p2.step.fr
    unfold stAt at h3
    split at h3
    · rename_i xs n' y q1 q2 q3
      obtain ⟨j, hj, h3⟩ := mapE h3
      cases h3
      cases q2
      cases q3
      obtain ⟨v2, g3, g4⟩ := t2.rel.slots i _ q1
      rw [hv0] at g3
      cases g3
      obtain ⟨a', vs, rfl, hA, g5, g6⟩ := own_lst g4
      have ek : kv = .int n' := by cases dk2; rfl
      subst ek
      exact .inl ⟨a', vs, n', j, rfl, rfl, g5, by rw [g6.length]; exact hj, k _ _ _ _ (t2.putAt q1 hA hv0 ⟨a', _, rfl, rfl, upd_same, DenAll.set (.int (f m n)) j g6⟩ rfl (.inl ⟨_, upd_same⟩))⟩
    · rename_i t kvs x' y q1 q2 q3
      obtain ⟨kk, hk', h3⟩ := bindE h3
      split at h3
      · rename_i hzz
        cases h3
        cases q2
        cases q3
        obtain ⟨v2, g3, g4⟩ := t2.rel.slots i _ q1
        rw [hv0] at g3
        cases g3
        obtain ⟨a', rfl, hA, g5⟩ := own_dct g4
        obtain ⟨u, g7, g8⟩ := dput_of t2.rel.same g5 hk' hzz.1 dk2 (.int (f m n)) hzz.2
        refine .inr ⟨a', _, rfl, g7, k _ _ _ _ (t2.putAt q1 hA hv0 ⟨a', rfl, rfl, g8⟩ rfl ?_)⟩
        cases t with
        | false => obtain ⟨hk, z, _⟩ := g8; exact .inr (.inl ⟨hk, z⟩)
        | true => obtain ⟨hk, z, _⟩ := g8; exact .inr (.inr ⟨hk, z⟩)
      · cases h3
    · cases h3
  rcases hop with rfl | rfl
  · refine go (fun i j => i + j) .Add ip_add (fun _ _ => rfl) (fun x y z h => ?_) rfl
    unfold augSem at h
    split at h
    all_goals try cases h
    all_goals exact ⟨_, _, rfl, rfl⟩
  · refine go (fun i j => i - j) .Sub ip_sub (fun _ _ => rfl) (fun x y z h => ?_) rfl
    unfold augSem at h
    split at h
    all_goals try cases h
    all_goals exact ⟨_, _, rfl, rfl⟩
end
end Vm


set_option Elab.async false
set_option linter.all false
set_option maxRecDepth 100000
/-! Vm: the law's source of numbers; while. -/
namespace Vm
open PySem PySem.Spec PyProof.Rows L2

/-- the keys of the source's dict are apart -/
theorem k12 : (Str.ofString "cells" : Str) ≠ Str.ofString "left" := by decide +kernel
theorem k13 : (Str.ofString "cells" : Str) ≠ Str.ofString "mixed" := by decide +kernel
theorem k14 : (Str.ofString "cells" : Str) ≠ Str.ofString "turn" := by decide +kernel
theorem k23 : (Str.ofString "left" : Str) ≠ Str.ofString "mixed" := by decide +kernel
theorem k24 : (Str.ofString "left" : Str) ≠ Str.ofString "turn" := by decide +kernel
theorem k34 : (Str.ofString "mixed" : Str) ≠ Str.ofString "turn" := by decide +kernel
def srcL (ca : Addr) (s : Src) : List (Key × V) := [(.inr (Str.ofString "cells"), .ref ca), (.inr (Str.ofString "left"), .int s.left), (.inr (Str.ofString "mixed"), .int s.mixed), (.inr (Str.ofString "turn"), .int s.turn)]
theorem srcL_get {ca : Addr} {s : Src} {k : Str} {v : Int} (e : sget s k = some v) : valV (srcL ca s) (Sum.inr k) = some (.int v) := by
  unfold sget at e
  unfold valV srcL
  split at e
  · rename_i h; cases e; subst h; simp [k12]
  · split at e
    · rename_i h; cases e; subst h; simp [k13, k23]
    · split at e
      · rename_i h; cases e; subst h; simp [k14, k24, k34]
      · cases e
theorem srcL_cells {ca : Addr} {s : Src} : valV (srcL ca s) (Sum.inr (Str.ofString "cells")) = some (.ref ca) := by
  unfold valV srcL
  simp
theorem srcL_put {ca : Addr} {s s' : Src} {k : Str} {v : Int} (e : sput s k v = some s') : putK (srcL ca s) (Sum.inr k) (V.int v) = srcL ca s' ∧ s'.cells = s.cells := by
  unfold sput at e
  unfold L2.putK srcL
  split at e
  · rename_i h; cases e; subst h; simp [k12, k23.symm, k24.symm]
  · split at e
    · rename_i h; cases e; subst h; simp [k13, k23, k34.symm]
    · split at e
      · rename_i h; cases e; subst h; simp [k14, k24, k34]
      · cases e
section
variable {K : PySem.W.Frag} {F H : Hp} {S : List Addr} {σ : L2.St} {A : Nat → List Addr} {st : St} {i : Nat}
/-- where the source stands -/
theorem Rel.source (R : Rel K F H S σ st A) (h : isSrc st i = true) {s : Src} (e : st.src = some s) : ∃ sa ca, S = [sa, ca] ∧ σ[i]? = some (some (.ref sa)) ∧ F sa = none ∧ F ca = none ∧ H sa = some (.dK (srcL ca s)) ∧ H ca = some (.lst (s.cells.map V.int)) := by
  unfold isSrc at h
  split at h
  · rename_i q
    obtain ⟨v, h1, h2⟩ := R.slots i _ q
    obtain ⟨_, sa, ca, e1, rfl⟩ := (show _ = [] ∧ _ from h2)
    have r := R.src
    rw [e] at r
    obtain ⟨sa', ca', e2, f1, f2, g1, g2⟩ := r
    rw [e1] at e2
    cases e2
    exact ⟨sa, ca, e1, h1, f1, f2, g1, g2⟩
  · cases h
/-- one of the source's objects is changed -/
theorem Rel.srcPut (R : Rel K F H S σ st A) {b : Addr} {u : HO} {s' : Src} (hb : b ∈ S) (hF : F b = none) (hs : SrcRel F (upd H b u) S (some s')) : Rel K F (upd H b u) S σ { st with src := some s' } A where
  same := fun c o e => by rw [upd_ne (ne_of_none e hF)]; exact R.same c o e
  slots := fun j o e => by
    obtain ⟨v, h1, h2⟩ := R.slots j o e
    refine ⟨v, h1, h2.keep (Same.refl _) fun c hc w z => ?_⟩
    rw [upd_ne (fun q => (R.out j c hc).2.1 (by rw [q]; exact hb))]
    exact z
  nobor := R.nobor
  nod := R.nod
  dis := R.dis
  out := fun j c hc => by
    obtain ⟨h1, h2, h3⟩ := R.out j c hc
    exact ⟨h1, h2, h3.keep fun o z => by rw [upd_ne (fun q => h2 (by rw [q]; exact hb))]; exact z⟩
  emp := R.emp
  src := hs
  len := R.len
theorem step_S {b : Addr} {u : HO} (hb : b ∈ S) : Step F H (Ow S A) F (upd H b u) (Ow S A) := Step.off Step.refl (.inl hb)
end
section
variable {X : Cx} {Φ : Fs} {a : Expr} {ea : E} {i : Nat} {x : Str} {px pk pos p : Pos} {kk : Nat} {k : Str}
theorem dget_src {H : Hp} {sa ca : Addr} {s : Src} (h : H sa = some (.dK (srcL ca s))) (k : Str) : DGet H sa (.str k) (valV (srcL ca s) (Sum.inr k)) := DGet.k (k := Sum.inr k) h
theorem noSl_const {c : Const} : NoSl (.Constant c kk pk) := fun _ _ => rfl
section
variable (hu : X.A.units + 66 < cLine) (hN : X.N[i]? = some x) (hv : Vis X.env.scope x) (hd : (x == ("__debug__" : Str)) = false) (hcd : (x == ("__classdict__" : Str)) = false)
include hu hN hv hd hcd
theorem e_sg : PE X (.Subscript (.Name x px) (.Constant (.str k) kk pk) pos) (tE Φ X.K (.sg i k)) := PE.imp (pe_dget (by omega) (pe_var hN hv hd hcd) pe_str noSl_const) fun σ H Q h => by
  obtain ⟨F, S, st, A, o, st', R, e, kQ⟩ := h
  rw [evE] at e
  split at e
  · rename_i hs
    obtain ⟨s, h1, e⟩ := bindE e
    obtain ⟨v, h2, e⟩ := mapE e
    cases e
    obtain ⟨sa, ca, eS, hσ, f1, f2, g1, g2⟩ := R.source hs h1
    have g := dget_src g1 k
    rw [srcL_get h2] at g
    exact ⟨_, hσ, sa, _, rfl, g, kQ _ _ _ _ _ (leaf R (.int v))⟩
  · cases e
theorem e_sl {y : Str} {py : Pos} (hg : Gl X y) (hm : X.mg y = none) (hv' : bootBuiltins y = some (.builtin "len")) (hn : y ≠ "__name__") (hdb : (y == ("__debug__" : Str)) = false) :
    PE X (.Call (.Name y py) [.Subscript (.Name x px) (.Constant (.str (Str.ofString "cells")) kk pk) pos] [] p) (tE Φ X.K (.sl i)) :=
  PE.imp (pe_callB call_len_seq hg hm hv' (pa_cons (pe_dget (by omega) (pe_var hN hv hd hcd) pe_str noSl_const) pa_nil rfl) hn hdb rfl rfl) fun σ H Q h => by
  obtain ⟨F, S, st, A, o, st', R, e, k⟩ := h
  rw [evE] at e
  split at e
  · rename_i hs
    obtain ⟨s, h1, e⟩ := mapE e
    cases e
    obtain ⟨sa, ca, eS, hσ, f1, f2, g1, g2⟩ := R.source hs h1
    have g := dget_src g1 (Str.ofString "cells")
    rw [srcL_cells] at g
    refine ⟨_, hσ, sa, _, rfl, g, ca, _, rfl, .inl (.of g2), ?_⟩
    rw [List.length_map]
    exact k _ _ _ _ _ (leaf R (.int _))
  · cases e
theorem e_sp {apos : Pos} (hline : (apos.endLine == p.line) = true) :
    PE X (.Call (.Attribute (.Subscript (.Name x px) (.Constant (.str (Str.ofString "cells")) kk pk) pos) "pop" apos) [] [] p) (tE Φ X.K (.sp i)) :=
  PE.imp (pe_bm0 PySem.F.plainAttrs_list PySem.F.slot_list_pop PySem.F.type_list_pop mt_pop (pe_dget (by omega) (pe_var hN hv hd hcd) pe_str noSl_const) rfl hline) fun σ H Q h => by
  obtain ⟨F, S, st, A, o, st', R, e, k⟩ := h
  rw [evE] at e
  split at e
  · rename_i hs
    obtain ⟨s, h1, e⟩ := bindE e
    obtain ⟨v, h2, e⟩ := mapE e
    cases e
    obtain ⟨sa, ca, eS, hσ, f1, f2, g1, g2⟩ := R.source hs h1
    have g := dget_src g1 (Str.ofString "cells")
    rw [srcL_cells] at g
    refine ⟨_, hσ, sa, _, rfl, g, .inl ⟨rfl, _, .of g2⟩, ca, _, .int v, rfl, rfl, g2, ?_, ?_⟩
    · rw [List.length_map, List.getElem?_map, h2]
      rfl
    · have ne : sa ≠ ca := fun z => by rw [z, g2] at g1; cases g1
      have hb : ca ∈ S := by rw [eS]; simp
      have R' : Rel X.K F (upd H ca (.lst (s.cells.map V.int).dropLast)) S σ { st with src := some { s with cells := s.cells.dropLast } } A :=
        R.srcPut hb f2 ⟨sa, ca, eS, f1, f2, by rw [upd_ne ne]; exact g1, by rw [upd_same, List.map_dropLast]⟩
      exact k _ _ _ _ [] ⟨(step_S (F := F) (A := A) hb).weak fun b h => h.elim id (fun z => nomatch z), R', ⟨rfl, .int v⟩, List.nodup_nil, fun _ z => nomatch z⟩
  · cases e
theorem s_sw {pt : Pos} (ha : PE X a (tE Φ X.K ea)) (hs : swapsWithSole [.Subscript (.Name x px) (.Constant (.str k) kk pk) pt] a pos.line X.env = pure false) :
    PS X (.Assign [.Subscript (.Name x px) (.Constant (.str k) kk pk) pt] a pos) (tS Φ X.K (.sw i k ea)) := PS.imp (ps_asg ha (pg_sub (pe_var hN hv hd hcd) pe_str (set_dict (by omega))) hs rfl rfl) fun D σ H h => by
  obtain ⟨F, S, st, A, out, R, e, kQ⟩ := h
  rw [evS] at e
  split at e
  · rename_i hsr
    obtain ⟨⟨o1, s1⟩, h1, e⟩ := bindE e
    dsimp only at e
    split at e
    · obtain ⟨s, h2, e⟩ := bindE e
      obtain ⟨s', h3, e⟩ := mapE e
      cases e
      have hv0 : ∃ v, σ[i]? = some (some v) ∧ ∃ sa ca, S = [sa, ca] ∧ v = .ref sa := by
        unfold isSrc at hsr
        split at hsr
        · rename_i q
          obtain ⟨v, g1, g2⟩ := R.slots i _ q
          obtain ⟨_, sa, ca, e1, e2⟩ := (show _ = [] ∧ _ from g2)
          exact ⟨v, g1, sa, ca, e1, e2⟩
        · cases hsr
      obtain ⟨v0, hσ, sa, ca, eS, rfl⟩ := hv0
      refine one_read R h1 fun v F1 H1 A1 B q => ⟨_, hσ, ?_⟩
      obtain rfl := own_int q.own
      have t := q.test
      have r := t.rel.src
      rw [h2] at r
      obtain ⟨sa', ca', e2, f1, f2, g1, g2⟩ := r
      rw [eS] at e2
      cases e2
      obtain ⟨p1, p2⟩ := srcL_put (ca := ca) h3
      have g1' : H1 sa = some (.dK (srcL ca s)) := g1
      refine ⟨sa, upd H1 sa (.dK (srcL ca s')), rfl, ?_, ?_⟩
      · rw [← p1]
        exact DPut.k (k := Sum.inr k) g1' (by rw [sizeLine_eq]; exact (by decide : (4 : Nat) < 16777216))
      · have ne : ca ≠ sa := fun z => by rw [z] at g2; rw [g1'] at g2; cases g2
        have hb : sa ∈ S := by rw [eS]; simp
        have R' : Rel X.K F1 (upd H1 sa (.dK (srcL ca s'))) S σ { s1 with src := some s' } A1 := t.rel.srcPut hb f1 ⟨sa, ca, eS, f1, f2, upd_same, by rw [upd_ne ne, p2]; exact g2⟩
        exact kQ _ _ _ _ ⟨t.step.trans (step_S hb), R'⟩
    · cases e
  · cases e
end
/-! ### while -/
theorem s_whl {c : Expr} {body : List Stmt} {t : T} {eb : Ss} {fuel : Nat} (hp : PassesOwn (model X.prog X.w) X.A X.env X.xe) (hc : PT X c (tT Φ X.K t)) (hb : PSs X body (tSs Φ X.K eb)) : PS X (.While c body [] pos) (tS Φ X.K (.whl fuel t eb)) := PS.imp (ps_while hp hc hb) fun D σ H h => by
  obtain ⟨F, S, st, A, out, R, e, k⟩ := h
  rw [evS] at e
  refine ⟨fun m σc Hc => ∃ Fc stc Ac, Rel X.K Fc Hc S σc stc Ac ∧ whlLoop (evT Φ t) (evSs Φ eb) m stc = some out ∧ OutOk X.K Fc Hc S σc Ac D out, ⟨fuel, F, st, A, R, e, k⟩, ?_⟩
  rintro m σc Hc ⟨Fc, stc, Ac, Rc, hl, kc⟩
  cases m with
  | zero => rw [whlLoop] at hl; cases hl
  | succ m =>
    rw [whlLoop] at hl
    cases h1 : evT Φ t stc with
    | none => rw [h1] at hl; cases hl
    | some r =>
      obtain ⟨b, s1⟩ := r
      rw [h1] at hl
      refine ⟨Fc, S, stc, Ac, b, s1, Rc, h1, fun F1 H1 A1 p1 => ?_⟩
      have k1 := kc.after p1
      cases b with
      | false =>
        dsimp only at hl
        cases hl
        show (if false = true then _ else _)
        rw [if_neg Bool.false_ne_true]
        exact k1 _ _ _ _ (.here p1.rel)
      | true =>
        dsimp only at hl
        show (if true = true then _ else _)
        rw [if_pos rfl]
        refine ⟨fun σ' H' => ∃ Fc stc Ac, Rel X.K Fc H' S σ' stc Ac ∧ whlLoop (evT Φ t) (evSs Φ eb) m stc = some out ∧ OutOk X.K Fc H' S σ' Ac D out, fun σ' H' n => ⟨m, Nat.lt_succ_self _, n⟩, ?_⟩
        cases h2 : evSs Φ eb s1 with
        | none => rw [h2] at hl; cases hl
        | some o1 =>
          rw [h2] at hl
          refine ⟨F1, S, s1, A1, o1, p1.rel, h2, ?_⟩
          cases o1 with
          | nx s => exact fun σ' F' H' A' q => ⟨F', s, A', q.rel, hl, k1.after q⟩
          | cnt s => exact fun σ' F' H' A' q => ⟨F', s, A', q.rel, hl, k1.after q⟩
          | brk s => cases hl; exact k1
          | ret o s => cases hl; exact k1
end
end Vm


set_option Elab.async false
set_option linter.all false
set_option maxRecDepth 100000
/-! Vm, part 19: a look at the text: does it say what the terms say; the soundness of the evaluator. -/
namespace Vm
open PySem PySem.Spec PyProof.Rows L2

structure Ctx where
  N : List Str
  sc : Scope
  fn : Str → Bool
  rp : Bool

def plainE : Expr → Bool
  | .Constant .. => true
  | .Name .. => true
  | .BinOp .. => true
  | .UnaryOp .. => true
  | .BoolOp .. => true
  | .Compare .. => true
  | .IfExp .. => true
  | .Tuple .. => true
  | .List .. => true
  | .Subscript .. => true
  | .ListComp .. => true
  | .Call .. => true
  | .Dict .. => true
  | _ => false
def noLc : Expr → Bool
  | .ListComp .. => false
  | _ => true
def plainT : Expr → Bool
  | .UnaryOp .. => false
  | .BoolOp .. => false
  | .Compare .. => false
  | .IfExp .. => false
  | _ => true
def isBool : Expr → Bool
  | .BoolOp .. => true
  | _ => false
section
variable {a : Expr} {as : List Expr} {env : Env}
theorem star_of (h : plainE a = true) : starEach (a :: as) env = (false, eval a env) :: starEach as env := by cases a <;> first | rfl | cases h
theorem ix_of (h : plainE a = true) : PlainIx a := by
  intro o i
  cases a <;> first | rfl | cases h
theorem fold_of (h : plainE a = true) : ∀ x, foldedSetIterable a env x = pure x := by
  intro x
  cases a <;> first | rfl | cases h
theorem behind_of {op : CmpOp} (h : plainE a = true) : behindInMarks op a = false := by cases a <;> first | rfl | cases h
theorem swap_of {t : Option Expr} {l : Nat} (h : plainE a = true) (h' : noLc a = true) : swapsWith a t l env = pure false := by cases a <;> first | rfl | exact nomatch (show false = true from h) | exact nomatch (show false = true from h')
theorem true_of (h : plainE a = true) (h' : plainT a = true) : ∀ whole, isTrue a env whole = (do let v ← whole; standAt a.pos; holding [v] (truthy v)) := by
  intro whole
  cases a <;> first | rfl | exact nomatch (show false = true from h) | exact nomatch (show false = true from h')
end

def nmOk (c : Ctx) (i : Nat) (x : Str) : Bool := decide (c.N[i]? = some x) && (match c.sc.names.lookup x with
  | some .local => true
  | some .cell => true
  | some .free => true
  | _ => false) && !(x == ("__debug__" : Str)) && !(x == ("__classdict__" : Str))
def locOk (c : Ctx) (i : Nat) (x : Str) : Bool := decide (c.N[i]? = some x) && (match c.sc.names.lookup x with
  | some .local => true
  | some .cell => c.fn x
  | _ => false)
def plocOk (c : Ctx) (i : Nat) (x : Str) : Bool := decide (c.N[i]? = some x) && decide (c.sc.names.lookup x = some .local)
def glOk (c : Ctx) (x : Str) : Bool := decide (c.sc.names.lookup x = some .globalImplicit) && !(x == ("__debug__" : Str)) && decide (x ≠ "__name__")
/-- the names of built-ins that the checks know -/
def bNames : List Str := ["len", "abs", "int", "bool", "str", "list", "tuple", "dict", "all", "any", "sum", "max", "min", "sorted", "repr", "isinstance", "range", "enumerate", "zip"]
inductive PK1 where
  | b (s : String) | t (s : String)
def primOf : Prim → Option PK1
  | .len => some (.b "len")
  | .abs => some (.b "abs")
  | .int => some (.t "int")
  | .all => some (.b "all")
  | .any => some (.b "any")
  | .sum => some (.b "sum")
  | .max => some (.b "max")
  | .min => some (.b "min")
  | .max2 => some (.b "max")
  | .min2 => some (.b "min")
  | .tuple => some (.t "tuple")
  | .list => some (.t "list")
  | .sorted => some (.b "sorted")
  | .repr => some (.b "repr")
  | .isi _ => none
def tyNames : List String := ["int", "bool", "str", "list", "tuple", "dict"]

mutual
def chkE (c : Ctx) : E → Expr → Bool
  | .int i, x => match x with
    | .Constant (.int j) _ _ => decide (i = j)
    | _ => false
  | .bl b, x => match x with
    | .Constant (.bool d) _ _ => decide (b = d)
    | _ => false
  | .non, x => match x with
    | .Constant .none _ _ => true
    | _ => false
  | .str s, x => match x with
    | .Constant (.str t) _ _ => decide (s = t)
    | _ => false
  | .var i, x => match x with
    | .Name y _ => nmOk c i y
    | _ => false
  | .bor i, x => match x with
    | .Name y _ => nmOk c i y
    | _ => false
  | .mov i, x => match x with
    | .Name y _ => nmOk c i y
    | _ => false
  | .bin op a b, x => match x with
    | .BinOp l o r _ => decide (o = op.op) && chkE c a l && chkE c b r
    | _ => false
  | .neg a, x => match x with
    | .UnaryOp .USub y _ => chkE c a y
    | _ => false
  | .cmp op a b, x => match x with
    | .Compare l [o] [r] _ => decide (o = op.op) && plainE r && chkE c a l && chkE c b r
    | _ => false
  | .chain op op' a b d, x => match x with
    | .Compare l [o, o'] [r, r'] _ => decide (o = op.op) && decide (o' = op'.op) && !lastMarks [o, o'] [r, r'] && chkE c a l && chkE c b r && chkE c d r'
    | _ => false
  | .not t, x => match x with
    | .UnaryOp .Not y _ => chkV c t y
    | _ => false
  | .and a b, x => match x with
    | .BoolOp .And (l :: r :: rest) p => chkE c a l && (match rest with
      | [] => chkE c b r
      | _ => chkE c b (.BoolOp .And (r :: rest) p))
    | _ => false
  | .or a b, x => match x with
    | .BoolOp .Or (l :: r :: rest) p => chkE c a l && (match rest with
      | [] => chkE c b r
      | _ => chkE c b (.BoolOp .Or (r :: rest) p))
    | _ => false
  | .ife t a b, x => match x with
    | .IfExp y l r _ => chkT c t y && chkE c a l && chkE c b r
    | _ => false
  | .tup es, x => match x with
    | .Tuple xs _ _ => chkEsS c es xs
    | _ => false
  | .lst es, x => match x with
    | .List xs _ => chkEsS c es xs
    | _ => false
  | .idx a i, x => match x with
    | .Subscript l r _ => plainE r && chkE c a l && chkE c i r
    | _ => false
  | .slc a lo hi, x => match x with
    | .Subscript l (.Slice u v none _) _ => chkE c a l && chkOe c lo u && chkOe c hi v
    | _ => false
  | .rev a, x => match x with
    | .Subscript l (.Slice none none (some (.UnaryOp .USub (.Constant (.int 1) _ _) _)) _) _ => chkE c a l
    | _ => false
  | .fn p es, x => match x with
    | .Call (.Name y _) (a :: as) [] _ => (match primOf p with
      | some (.b s) => decide (y = Str.ofString s) && glOk c y && decide (y ∈ bNames) && (c.rp || !decide (p = .repr)) && chkEs c es (a :: as)
      | some (.t s) => decide (y = Str.ofString s) && glOk c y && decide (y ∈ bNames) && chkEs c es (a :: as)
      | none => (match p, es, as with
        | .isi T, .cons e .nil, [.Name z _] => decide (y = Str.ofString "isinstance") && glOk c y && decide (z = Str.ofString T) && glOk c z && decide (z ∈ bNames) && decide (T ∈ tyNames) && plainE a && chkE c e a
        | _, _, _ => false))
    | _ => false
  | .mt m a es, x => match x with
    | .Call (.Attribute (.Name y py) g ap) [u, v] [] cp => (match m, es with
      | .get2, .cons e (.cons e' .nil) => decide (g = Str.ofString "get") && decide (ap.endLine = cp.line) && plainE u && plainE v && chkE c a (.Name y py) && chkE c e u && chkE c e' v
      | _, _ => false)
    | _ => false
  | .pop _, _ => false
  | .popi i e, x => match x with
    | .Call (.Attribute (.Name y _) g ap) [u] [] cp => nmOk c i y && decide (g = Str.ofString "pop") && decide (ap.endLine = cp.line) && plainE u && chkE c e u
    | _ => false
  | .call f es, x => match x with
    | .Call (.Name y _) (a :: as) [] _ => decide (y = f) && glOk c y && chkEs c es (a :: as)
    | _ => false
  | .calls f es, x => match x with
    | .Call (.Name y _) (a :: as) [] _ => decide (y = f) && glOk c y && chkEs c es (a :: as)
    | _ => false
  | .lc m e tg it oc own, x => match x with
    | .ListComp elt [⟨t, i, ifs, 0⟩] scope _ => !m && blkC c.N c.sc scope (own.map fun j => ((c.N[j]?).getD "", j)) && decide (scope.kind = .function) && plainE i && (tgN tg).all (fun j => decide (j ∈ own)) &&
        chkIt c it t i && chkTg { c with sc := relS scope c.sc, fn := fun x => scope.names.lookup x == some .cell } tg t &&
        chkOc { c with sc := relS scope c.sc, fn := fun x => scope.names.lookup x == some .cell } oc ifs && chkE { c with sc := relS scope c.sc, fn := fun x => scope.names.lookup x == some .cell } e elt
    | _ => false
  | .rng l a b, x => match x with
    | .Call (.Name y _) [.Call (.Name z _) [u, v] [] _] [] _ => decide (y = Str.ofString (if l then "list" else "tuple")) && glOk c y && decide (z = Str.ofString "range") && glOk c z && plainE u && plainE v && chkE c a u && chkE c b v
    | _ => false
  | .rng0 l a, x => match x with
    | .Call (.Name y _) [.Call (.Name z _) [u] [] _] [] _ => decide (y = Str.ofString (if l then "list" else "tuple")) && glOk c y && decide (z = Str.ofString "range") && glOk c z && plainE u && chkE c a u
    | _ => false
  | .dnew _, x => match x with
    | .Dict [] [] _ => true
    | _ => false
  | .dof t e, x => match x with
    | .Call (.Name y _) [a] [] _ => decide (y = Str.ofString "dict") && glOk c y && plainE a && chkE c e a
    | _ => false
  | .sg i k, x => match x with
    | .Subscript (.Name y _) (.Constant (.str t) _ _) _ => nmOk c i y && decide (t = k)
    | _ => false
  | .sl i, x => match x with
    | .Call (.Name l _) [.Subscript (.Name y _) (.Constant (.str t) _ _) _] [] _ => decide (l = Str.ofString "len") && glOk c l && nmOk c i y && decide (t = Str.ofString "cells")
    | _ => false
  | .sp i, x => match x with
    | .Call (.Attribute (.Subscript (.Name y _) (.Constant (.str t) _ _) _) g ap) [] [] p => decide (g = Str.ofString "pop") && nmOk c i y && decide (t = Str.ofString "cells") && decide (ap.endLine = p.line)
    | _ => false
def chkEs (c : Ctx) : Es → List Expr → Bool
  | .nil, x => match x with
    | [] => true
    | _ => false
  | .cons e es, x => match x with
    | a :: as => plainE a && chkE c e a && chkEs c es as
    | _ => false
  | .star _ _, _ => false
def chkEsS (c : Ctx) : Es → List Expr → Bool
  | .nil, x => match x with
    | [] => true
    | _ => false
  | .cons e es, x => match x with
    | a :: as => plainE a && chkE c e a && chkEsS c es as
    | _ => false
  | .star e es, x => match x with
    | .Starred a _ :: as => chkE c e a && chkEsS c es as
    | _ => false
def chkOe (c : Ctx) : Oe → Option Expr → Bool
  | .no, x => match x with
    | none => true
    | _ => false
  | .yes e, x => match x with
    | some a => chkE c e a
    | _ => false
def chkOc (c : Ctx) : Oc → List Expr → Bool
  | .no, x => match x with
    | [] => true
    | _ => false
  | .yes t, x => match x with
    | [a] => chkT c t a
    | _ => false
def chkV (c : Ctx) : T → Expr → Bool
  | .v e, x => chkE c e x
  | .and .., _ => false
  | .or .., _ => false
  | .not .., _ => false
def chkT (c : Ctx) : T → Expr → Bool
  | .v e, x => match e with
    | .cmp op a b => (match x with
      | .Compare l [o] [r] _ => decide (o = op.op) && plainE r && chkE c a l && chkE c b r
      | _ => false)
    | .chain op op' a b d => (match x with
      | .Compare l [o, o'] [r, r'] _ => decide (o = op.op) && decide (o' = op'.op) && !lastMarks [o, o'] [r, r'] && chkE c a l && chkE c b r && chkE c d r'
      | _ => false)
    | e => plainE x && plainT x && chkE c e x
  | .not t, x => match x with
    | .UnaryOp .Not y _ => chkT c t y
    | _ => false
  | .and a b, x => match x with
    | .BoolOp .And (l :: r :: rest) p => chkT c a l && (match rest with
      | [] => chkT c b r
      | _ => chkT c b (.BoolOp .And (r :: rest) p))
    | _ => false
  | .or a b, x => match x with
    | .BoolOp .Or (l :: r :: rest) p => chkT c a l && (match rest with
      | [] => chkT c b r
      | _ => chkT c b (.BoolOp .Or (r :: rest) p))
    | _ => false
def chkIt (c : Ctx) : Vm.It → Expr → Expr → Bool
  | .seq e, _, x => chkE c e x
  | .rng1 e, _, x => match x with
    | .Call (.Name y _) [a] [] _ => decide (y = Str.ofString "range") && glOk c y && plainE a && chkE c e a
    | _ => false
  | .rng2 e e', _, x => match x with
    | .Call (.Name y _) [a, b] [] _ => decide (y = Str.ofString "range") && glOk c y && plainE a && plainE b && chkE c e a && chkE c e' b
    | _ => false
  | .rng3 .., _, _ => false
  | .enum e, t, x => match t, x with
    | .Tuple _ _ _, .Call (.Name y _) [a] [] _ => decide (y = Str.ofString "enumerate") && glOk c y && plainE a && chkE c e a
    | _, _ => false
  | .zip e e', t, x => match t, x with
    | .Tuple _ _ _, .Call (.Name y _) [a, b] [] _ => decide (y = Str.ofString "zip") && glOk c y && plainE a && plainE b && chkE c e a && chkE c e' b
    | _, _ => false
  | .zips e e', t, x => match t, x with
    | .Tuple _ _ _, .Call (.Name y _) [a, b] [⟨some k, .Constant (.bool true) _ _, _⟩] _ => decide (k = Str.ofString "strict") && decide (y = Str.ofString "zip") && glOk c y && plainE a && plainE b && chkE c e a && chkE c e' b
    | _, _ => false
def chkTg (c : Ctx) : Tg → Expr → Bool
  | .nm i, x => match x with
    | .Name y _ => locOk c i y
    | _ => false
  | .tp ts, x => match x with
    | .Tuple xs _ _ => chkTgs c ts xs
    | _ => false
def chkTgs (c : Ctx) : Tgs → List Expr → Bool
  | .nil, x => match x with
    | [] => true
    | _ => false
  | .cons t ts, x => match x with
    | a :: as => chkTg c t a && chkTgs c ts as
    | _ => false
end
end Vm


set_option Elab.async false
set_option linter.all false
set_option maxRecDepth 100000
set_option maxHeartbeats 4000000
/-! Vm, part 20: what is checked is what is computed: expressions. -/
namespace Vm
open PySem PySem.Spec PyProof.Rows L2

structure CtxOk (Φ : Fs) (X : Cx) (c : Ctx) (j : Nat) : Prop where
  N : X.N = c.N
  nd : c.N.Nodup
  sc : X.env.scope = c.sc
  kind : c.sc.kind = .function
  fn : ∀ x, c.fn x = true → X.fn x = true
  calm : X.calm = true
  xe : X.xe = fun _ _ => False
  room : Room j X.A
  blt : ∀ x ∈ bNames, X.mg x = none
  rp : c.rp = true → X.A.guards = some []
  pf : ∀ f n φ, Φ.p f = some (n, φ) → ∃ k, k ≤ j ∧ C8.Cal X.prog X.w X.K X.mg X.base k f (spP X.K n φ) []
  sf : ∀ f n φ, Φ.s f = some (n, φ) → ∃ k, k ≤ j ∧ C8.Cal X.prog X.w X.K X.mg X.base k f (spS X.K n φ) []

section
variable {Φ : Fs} {X : Cx} {c : Ctx} {j : Nat}
theorem CtxOk.u66 (ok : CtxOk Φ X c j) : X.A.units + 66 < cLine := by have := ok.room.un; omega
theorem nm_of (ok : CtxOk Φ X c j) {i : Nat} {x : Str} (h : nmOk c i x = true) : X.N[i]? = some x ∧ Vis X.env.scope x ∧ (x == ("__debug__" : Str)) = false ∧ (x == ("__classdict__" : Str)) = false := by
  unfold nmOk at h
  simp only [Bool.and_eq_true, decide_eq_true_eq, Bool.not_eq_true'] at h
  obtain ⟨⟨⟨h1, h2⟩, h3⟩, h4⟩ := h
  refine ⟨by rw [ok.N]; exact h1, ?_, h3, h4⟩
  rw [ok.sc]
  unfold Vis
  split at h2
  · exact .inl (by assumption)
  · exact .inr (.inl (by assumption))
  · exact .inr (.inr (by assumption))
  · cases h2
theorem loc_of (ok : CtxOk Φ X c j) {i : Nat} {x : Str} (h : locOk c i x = true) : X.N[i]? = some x ∧ L2.Loc X.env.scope x ∧ (X.fn x = true ∨ X.env.scope.names.lookup x = some .local) := by
  unfold locOk at h
  simp only [Bool.and_eq_true, decide_eq_true_eq] at h
  obtain ⟨h1, h2⟩ := h
  rw [ok.sc]
  refine ⟨by rw [ok.N]; exact h1, ?_⟩
  unfold L2.Loc
  split at h2
  · exact ⟨.inl (by assumption), .inr (by assumption)⟩
  · exact ⟨.inr (by assumption), .inl (ok.fn _ h2)⟩
  · cases h2
theorem gl_of (ok : CtxOk Φ X c j) {x : Str} (h : glOk c x = true) : Gl X x ∧ (x == ("__debug__" : Str)) = false ∧ x ≠ "__name__" := by
  unfold glOk at h
  simp only [Bool.and_eq_true, decide_eq_true_eq, Bool.not_eq_true'] at h
  obtain ⟨⟨h1, h2⟩, h3⟩ := h
  refine ⟨?_, h2, h3⟩
  show X.env.scope.names.lookup x = some .globalImplicit
  rw [ok.sc]
  exact h1
theorem nd_of (ok : CtxOk Φ X c j) : X.N.Nodup := by rw [ok.N]; exact ok.nd
/-- a comprehension's block -/
theorem blk_of (ok : CtxOk Φ X c j) {scope : Scope} (hk : scope.kind = .function) (s : Shared) (H : Hp) (C : Addr) (cl : List (Str × Addr)) (fp : List Addr) :
    CtxOk Φ (X.blk s H scope (compEnvC scope cl C X.env) fp) { c with sc := relS scope c.sc, fn := fun x => scope.names.lookup x == some .cell } j where
  N := ok.N
  nd := ok.nd
  sc := by
    show relS scope X.env.scope = relS scope c.sc
    rw [ok.sc]
  kind := hk
  fn := fun x h => h
  calm := ok.calm
  xe := rfl
  room := ok.room
  blt := ok.blt
  rp := ok.rp
  pf := ok.pf
  sf := ok.sf

theorem prim_b (ok : CtxOk Φ X c j) {p : Prim} {s : String} (h : primOf p = some (.b s)) (hr : (c.rp || !decide (p = .repr)) = true) : CallR X (.builtin s) (rP X.K p) ∧ bootBuiltins (Str.ofString s) = some (.builtin s) := by
  have hc := ok.calm
  have hu := ok.u66
  cases p <;> cases h
  · exact ⟨len_ok, by decide +kernel⟩
  · exact ⟨abs_ok, by decide +kernel⟩
  · exact ⟨all_ok hc, boot_all⟩
  · exact ⟨any_ok hc, boot_any⟩
  · exact ⟨sum_ok hc, boot_sum⟩
  · exact ⟨max_ok hc, boot_max⟩
  · exact ⟨min_ok hc, boot_min⟩
  · exact ⟨max2_ok hc, boot_max⟩
  · exact ⟨min2_ok hc, boot_min⟩
  · exact ⟨sorted_ok hc hu, boot_sorted⟩
  · refine ⟨repr_ok (ok.rp ?_) hu, boot_repr⟩
    simpa using hr
theorem prim_t (ok : CtxOk Φ X c j) {p : Prim} {s : String} (h : primOf p = some (.t s)) : CallR X (.type s) (rP X.K p) ∧ bootBuiltins (Str.ofString s) = some (.type s) := by
  cases p <;> cases h
  · exact ⟨int_ok, boot_int⟩
  · exact ⟨tuple_ok, boot_tuple⟩
  · exact ⟨list_ok, boot_list⟩
theorem ty_boot {T : String} (h : T ∈ tyNames) : bootBuiltins (Str.ofString T) = some (.type T) := by
  simp only [tyNames, List.mem_cons, List.not_mem_nil, or_false] at h
  rcases h with h | h | h | h | h | h <;> subst h
  · exact boot_int
  · exact boot_bool
  · exact boot_str
  · exact boot_list
  · exact boot_tuple
  · exact boot_dict
end

/-! ### targets -/
section
variable {Φ : Fs}
mutual
theorem sndTg : ∀ (t : Tg) {X : Cx} {c : Ctx} {j : Nat} {x : Expr}, CtxOk Φ X c j → chkTg c t x = true → PG X x (gT X.K t)
  | .nm i, X, c, j, x, ok, h => by
    rw [chkTg.eq_def] at h; dsimp only at h
    split at h
    · obtain ⟨h1, h2, h3⟩ := loc_of ok h
      exact g_nm (nd_of ok) h1 h2 h3
    · cases h
  | .tp ts, X, c, j, x, ok, h => by
    rw [chkTg.eq_def] at h; dsimp only at h
    split at h
    · obtain ⟨h1, h2, h3, h4⟩ := sndTgs ts ok h
      exact g_tp ok.calm h1 h2 h3
    · cases h
theorem sndTgs : ∀ (ts : Tgs) {X : Cx} {c : Ctx} {j : Nat} {xs : List Expr}, CtxOk Φ X c j → chkTgs c ts xs = true →
    PGs X xs (gTs X.K ts) ∧ (assignEach xs X.env).length = tgsL ts ∧ (assignEach xs X.env).findIdx? (·.1) = none ∧ True
  | .nil, X, c, j, xs, ok, h => by
    rw [chkTgs.eq_def] at h; dsimp only at h
    split at h
    · exact ⟨gs_nil, rfl, rfl, trivial⟩
    · cases h
  | .cons t ts, X, c, j, xs, ok, h => by
    rw [chkTgs.eq_def] at h; dsimp only at h
    split at h
    · rename_i a as
      rw [Bool.and_eq_true] at h
      obtain ⟨h1, h2, h3, _⟩ := sndTgs ts ok h.2
      have g := sndTg t ok h.1
      have pl : assignEach (a :: as) X.env = (false, assign a X.env) :: assignEach as X.env := by
        cases t with
        | nm i =>
          have h' := h.1
          rw [chkTg.eq_def] at h'; dsimp only at h'
          split at h'
          · rfl
          · cases h'
        | tp ts =>
          have h' := h.1
          rw [chkTg.eq_def] at h'; dsimp only at h'
          split at h'
          · rfl
          · cases h'
      refine ⟨gs_cons g h1 (by rw [pl]; rfl), ?_, ?_, trivial⟩
      · rw [pl, List.length_cons, h2]; rfl
      · rw [pl, List.findIdx?_cons, h3]
        rfl
    · cases h
end
end

/-! ### expressions -/
section
variable {Φ : Fs}
mutual
theorem sndE : ∀ (e : E) {X : Cx} {c : Ctx} {j : Nat} {x : Expr}, CtxOk Φ X c j → chkE c e x = true → PE X x (tE Φ X.K e)
  | .int i, X, c, j, x, ok, h => by
    rw [chkE.eq_def] at h; dsimp only at h
    split at h
    · obtain rfl := of_decide_eq_true h; exact e_int
    · cases h
  | .bl i, X, c, j, x, ok, h => by
    rw [chkE.eq_def] at h; dsimp only at h
    split at h
    · obtain rfl := of_decide_eq_true h; exact e_bl
    · cases h
  | .non, X, c, j, x, ok, h => by
    rw [chkE.eq_def] at h; dsimp only at h
    split at h
    · exact e_non
    · cases h
  | .str i, X, c, j, x, ok, h => by
    rw [chkE.eq_def] at h; dsimp only at h
    split at h
    · obtain rfl := of_decide_eq_true h; exact e_str
    · cases h
  | .var i, X, c, j, x, ok, h => by
    rw [chkE.eq_def] at h; dsimp only at h
    split at h
    · obtain ⟨h1, h2, h3, h4⟩ := nm_of ok h; exact e_var h1 h2 h3 h4
    · cases h
  | .bor i, X, c, j, x, ok, h => by
    rw [chkE.eq_def] at h; dsimp only at h
    split at h
    · obtain ⟨h1, h2, h3, h4⟩ := nm_of ok h; exact e_bor h1 h2 h3 h4
    · cases h
  | .mov i, X, c, j, x, ok, h => by
    rw [chkE.eq_def] at h; dsimp only at h
    split at h
    · obtain ⟨h1, h2, h3, h4⟩ := nm_of ok h; exact e_mov h1 h2 h3 h4
    · cases h
  | .bin op a b, X, c, j, x, ok, h => by
    rw [chkE.eq_def] at h; dsimp only at h
    split at h
    · simp only [Bool.and_eq_true, decide_eq_true_eq] at h
      obtain ⟨⟨rfl, h2⟩, h3⟩ := h
      exact e_bin op (sndE a ok h2) (sndE b ok h3)
    · cases h
  | .neg a, X, c, j, x, ok, h => by
    rw [chkE.eq_def] at h; dsimp only at h
    split at h
    · exact e_neg (sndE a ok h)
    · cases h
  | .cmp op a b, X, c, j, x, ok, h => by
    rw [chkE.eq_def] at h; dsimp only at h
    split at h
    · simp only [Bool.and_eq_true, decide_eq_true_eq] at h
      obtain ⟨⟨⟨rfl, h1⟩, h2⟩, h3⟩ := h
      exact e_cmp ok.u66 op (sndE a ok h2) (sndE b ok h3) (behind_of h1)
    · cases h
  | .chain op op' a b d, X, c, j, x, ok, h => by
    rw [chkE.eq_def] at h; dsimp only at h
    split at h
    · simp only [Bool.and_eq_true, decide_eq_true_eq, Bool.not_eq_true'] at h
      obtain ⟨⟨⟨⟨⟨rfl, rfl⟩, h1⟩, h2⟩, h3⟩, h4⟩ := h
      exact e_chain ok.u66 op op' (sndE a ok h2) (sndE b ok h3) (sndE d ok h4) h1
    · cases h
  | .not t, X, c, j, x, ok, h => by
    rw [chkE.eq_def] at h; dsimp only at h
    split at h
    · cases t with
      | v a => rw [chkV.eq_def] at h; dsimp only at h; exact e_not (sndE a ok h)
      | and a b => rw [chkV.eq_def] at h; dsimp only at h; cases h
      | or a b => rw [chkV.eq_def] at h; dsimp only at h; cases h
      | not a => rw [chkV.eq_def] at h; dsimp only at h; cases h
    · cases h
  | .and a b, X, c, j, x, ok, h => by
    rw [chkE.eq_def] at h; dsimp only at h
    split at h
    · rw [Bool.and_eq_true] at h
      obtain ⟨h1, h2⟩ := h
      refine e_and (sndE a ok h1) ?_
      split at h2
      · exact L2.pe_one (sndE b ok h2)
      · exact sndE b ok h2
    · cases h
  | .or a b, X, c, j, x, ok, h => by
    rw [chkE.eq_def] at h; dsimp only at h
    split at h
    · rw [Bool.and_eq_true] at h
      obtain ⟨h1, h2⟩ := h
      refine e_or (sndE a ok h1) ?_
      split at h2
      · exact L2.pe_one (sndE b ok h2)
      · exact sndE b ok h2
    · cases h
  | .ife t a b, X, c, j, x, ok, h => by
    rw [chkE.eq_def] at h; dsimp only at h
    split at h
    · simp only [Bool.and_eq_true] at h
      obtain ⟨⟨h1, h2⟩, h3⟩ := h
      exact e_ife (sndT t ok h1).1 (sndE a ok h2) (sndE b ok h3)
    · cases h
  | .tup es, X, c, j, x, ok, h => by
    rw [chkE.eq_def] at h; dsimp only at h
    split at h
    · exact e_tup (sndEsS es ok h)
    · cases h
  | .lst es, X, c, j, x, ok, h => by
    rw [chkE.eq_def] at h; dsimp only at h
    split at h
    · exact e_lst (sndEsS es ok h)
    · cases h
  | .idx a i, X, c, j, x, ok, h => by
    rw [chkE.eq_def] at h; dsimp only at h
    split at h
    · simp only [Bool.and_eq_true] at h
      obtain ⟨⟨h1, h2⟩, h3⟩ := h
      exact e_idx ok.u66 (sndE a ok h2) (sndE i ok h3) (ix_of h1)
    · cases h
  | .slc a lo hi, X, c, j, x, ok, h => by
    rw [chkE.eq_def] at h; dsimp only at h
    split at h
    · simp only [Bool.and_eq_true] at h
      obtain ⟨⟨h1, h2⟩, h3⟩ := h
      exact e_slc (sndE a ok h1) (sndOe lo ok h2) (sndOe hi ok h3)
    · cases h
  | .rev a, X, c, j, x, ok, h => by
    rw [chkE.eq_def] at h; dsimp only at h
    split at h
    · exact e_rev (sndE a ok h)
    · cases h
  | .fn p es, X, c, j, x, ok, h => by
    rw [chkE.eq_def] at h; dsimp only at h
    split at h
    · rename_i y py a as ps
      split at h
      · rename_i s hp
        simp only [Bool.and_eq_true, decide_eq_true_eq] at h
        obtain ⟨⟨⟨⟨rfl, h2⟩, h3⟩, h4⟩, h5⟩ := h
        obtain ⟨g1, g2, g3⟩ := gl_of ok h2
        obtain ⟨k1, k2⟩ := prim_b ok hp h4
        obtain ⟨l1, l2, l3⟩ := sndEsC es ok h5
        exact e_callB k1 g1 (ok.blt _ h3) k2 (sndEs es ok h5) g3 g2 l2 (l3 _)
      · rename_i s hp
        simp only [Bool.and_eq_true, decide_eq_true_eq] at h
        obtain ⟨⟨⟨rfl, h2⟩, h3⟩, h5⟩ := h
        obtain ⟨g1, g2, g3⟩ := gl_of ok h2
        obtain ⟨k1, k2⟩ := prim_t ok hp
        obtain ⟨l1, l2, l3⟩ := sndEsC es ok h5
        exact e_callTy k1 g1 (ok.blt _ h3) k2 (sndEs es ok h5) g3 g2 l2 (l3 _)
      · split at h
        · rename_i T e z pz hp
          simp only [Bool.and_eq_true, decide_eq_true_eq] at h
          obtain ⟨⟨⟨⟨⟨⟨⟨rfl, h2⟩, rfl⟩, h4⟩, h5⟩, h6⟩, h7⟩, h8⟩ := h
          obtain ⟨g1, g2, g3⟩ := gl_of ok h2
          obtain ⟨g4, g5, g6⟩ := gl_of ok h4
          exact e_isi g1 (ok.blt _ (by decide)) boot_isinstance (sndE e ok h8) g4 (ok.blt _ h5) (ty_boot h6) g3 g2 g6 g5 (star_of h7)
        · cases h
    · cases h
  | .mt m a es, X, c, j, x, ok, h => by
    rw [chkE.eq_def] at h; dsimp only at h
    split at h
    · split at h
      · rename_i e e'
        simp only [Bool.and_eq_true, decide_eq_true_eq] at h
        obtain ⟨⟨⟨⟨⟨⟨rfl, h2⟩, h3⟩, h4⟩, h5⟩, h6⟩, h7⟩ := h
        refine e_get2 ok.u66 (sndE a ok h5) (sndE e ok h6) (sndE e' ok h7) ⟨rfl, ?_, by rw [h2]; exact beq_self_eq_true _, ?_⟩
        · rw [star_of h3, star_of h4]; rfl
        · rw [star_of h3, star_of h4]; rfl
      · cases h
    · cases h
  | .pop i, X, c, j, x, ok, h => by
    rw [chkE.eq_def] at h; dsimp only at h
    cases h
  | .popi i e, X, c, j, x, ok, h => by
    rw [chkE.eq_def] at h; dsimp only at h
    split at h
    · simp only [Bool.and_eq_true, decide_eq_true_eq] at h
      obtain ⟨⟨⟨⟨h1, rfl⟩, h3⟩, h4⟩, h5⟩ := h
      obtain ⟨k1, k2, k3, k4⟩ := nm_of ok h1
      exact e_popi k1 k2 k3 k4 (sndE e ok h5) (by rw [h3]; exact beq_self_eq_true _) (star_of h4) (by rw [star_of h4]; rfl)
    · cases h
  | .call f es, X, c, j, x, ok, h => by
    rw [chkE.eq_def] at h; dsimp only at h
    split at h
    · simp only [Bool.and_eq_true, decide_eq_true_eq] at h
      obtain ⟨⟨rfl, h2⟩, h3⟩ := h
      obtain ⟨g1, g2, g3⟩ := gl_of ok h2
      obtain ⟨l1, l2, l3⟩ := sndEsC es ok h3
      rename_i y py a as ps
      refine ⟨fun pins s σ H Q I q => ?_⟩
      cases hΦ : Φ.p y with
      | none =>
        obtain ⟨F, S, st, A, o, st', R, e, k⟩ := q
        rw [evE] at e
        obtain ⟨⟨os, s1⟩, h1, e⟩ := bindE e
        obtain ⟨qs, h2, e⟩ := bindE e
        rw [hΦ] at e
        cases e
      | some v =>
        obtain ⟨n, φ⟩ := v
        obtain ⟨k, hk, cal⟩ := ok.pf y n φ hΦ
        exact (e_call hΦ cal ok.room hk g1 (sndEs es ok h3) g2 l2 (l3 _)).run pins s σ H Q I q
    · cases h
  | .calls f es, X, c, j, x, ok, h => by
    rw [chkE.eq_def] at h; dsimp only at h
    split at h
    · simp only [Bool.and_eq_true, decide_eq_true_eq] at h
      obtain ⟨⟨rfl, h2⟩, h3⟩ := h
      obtain ⟨g1, g2, g3⟩ := gl_of ok h2
      obtain ⟨l1, l2, l3⟩ := sndEsC es ok h3
      rename_i y py a as ps
      refine ⟨fun pins s σ H Q I q => ?_⟩
      cases hΦ : Φ.s y with
      | none =>
        obtain ⟨F, S, st, A, o, st', R, e, k⟩ := q
        rw [evE] at e
        obtain ⟨⟨os, s1⟩, h1, e⟩ := bindE e
        obtain ⟨qs, h2, e⟩ := bindE e
        rw [hΦ] at e
        cases e
      | some v =>
        obtain ⟨n, φ⟩ := v
        obtain ⟨k, hk, cal⟩ := ok.sf y n φ hΦ
        exact (e_calls hΦ cal ok.room hk g1 (sndEs es ok h3) g2 l2 (l3 _)).run pins s σ H Q I q
    · cases h
  | .lc m e tg it oc own, X, c, j, x, ok, h => by
    rw [chkE.eq_def] at h; dsimp only at h
    split at h
    · rename_i elt t i ifs scope pos
      simp only [Bool.and_eq_true, decide_eq_true_eq, Bool.not_eq_true', List.all_eq_true] at h
      obtain ⟨⟨⟨⟨⟨⟨⟨⟨rfl, h1⟩, h2⟩, h3⟩, h4⟩, h5⟩, h6⟩, h7⟩, h8⟩ := h
      have eo : (own.map fun (k : Nat) => (((c.N[k]?).getD "" : Str), k)).map (·.2) = own := by rw [List.map_map]; exact List.map_id' own
      have blk : BlkOk X.N X.env.scope scope (own.map fun (k : Nat) => (((c.N[k]?).getD "" : Str), k)) := by rw [ok.N, ok.sc]; exact blkOk_by h1
      have q := e_lc (Φ := Φ) (ee := e) (et := tg) (ei := it) (ec := oc) (elt := elt) (pos := pos) ok.calm (nd_of ok) (sndIt it ok h5) blk (fun k hk => by rw [eo]; exact h4 k hk)
        (fun s H C cl fp => sndTg tg (blk_of ok h2 s H C cl fp) h6) (fun s H C cl fp => sndOc oc (blk_of ok h2 s H C cl fp) h7) (fun s H C cl fp => sndE e (blk_of ok h2 s H C cl fp) h8) (fold_of h3)
      rw [eo] at q
      exact q
    · cases h
  | .rng l a b, X, c, j, x, ok, h => by
    rw [chkE.eq_def] at h; dsimp only at h
    split at h
    · simp only [Bool.and_eq_true, decide_eq_true_eq] at h
      obtain ⟨⟨⟨⟨⟨⟨⟨rfl, h2⟩, rfl⟩, h3⟩, h4⟩, h5⟩, h6⟩, h7⟩ := h
      cases l with
      | true => exact e_rng (l := true) ok.calm (gl_of ok h2).1 (ok.blt _ (by decide)) (gl_of ok h3).1 (ok.blt _ (by decide)) (sndE a ok h6) (sndE b ok h7) (by rw [star_of h4]) (by rw [star_of h5]) (by rw [star_of h5]; rfl)
      | false => exact e_rng (l := false) ok.calm (gl_of ok h2).1 (ok.blt _ (by decide)) (gl_of ok h3).1 (ok.blt _ (by decide)) (sndE a ok h6) (sndE b ok h7) (by rw [star_of h4]) (by rw [star_of h5]) (by rw [star_of h5]; rfl)
    · cases h
  | .rng0 l a, X, c, j, x, ok, h => by
    rw [chkE.eq_def] at h; dsimp only at h
    split at h
    · simp only [Bool.and_eq_true, decide_eq_true_eq] at h
      obtain ⟨⟨⟨⟨⟨rfl, h2⟩, rfl⟩, h3⟩, h4⟩, h6⟩ := h
      cases l with
      | true => exact e_rng0 (l := true) ok.calm (gl_of ok h2).1 (ok.blt _ (by decide)) (gl_of ok h3).1 (ok.blt _ (by decide)) (sndE a ok h6) (by rw [star_of h4])
      | false => exact e_rng0 (l := false) ok.calm (gl_of ok h2).1 (ok.blt _ (by decide)) (gl_of ok h3).1 (ok.blt _ (by decide)) (sndE a ok h6) (by rw [star_of h4])
    · cases h
  | .dnew t, X, c, j, x, ok, h => by
    rw [chkE.eq_def] at h; dsimp only at h
    split at h
    · exact e_dnew
    · cases h
  | .dof t e, X, c, j, x, ok, h => by
    rw [chkE.eq_def] at h; dsimp only at h
    split at h
    · simp only [Bool.and_eq_true, decide_eq_true_eq] at h
      obtain ⟨⟨⟨rfl, h2⟩, h3⟩, h4⟩ := h
      obtain ⟨g1, g2, g3⟩ := gl_of ok h2
      cases t with
      | true => exact e_dof ok.calm ok.u66 g1 (ok.blt _ (by decide)) boot_dict (sndE e ok h4) g3 g2 (star_of h3)
      | false => exact e_dofK ok.calm g1 (ok.blt _ (by decide)) boot_dict (sndE e ok h4) g3 g2 (star_of h3)
    · cases h
  | .sg i k, X, c, j, x, ok, h => by
    rw [chkE.eq_def] at h; dsimp only at h
    split at h
    · simp only [Bool.and_eq_true, decide_eq_true_eq] at h
      obtain ⟨h1, rfl⟩ := h
      obtain ⟨k1, k2, k3, k4⟩ := nm_of ok h1
      exact e_sg ok.u66 k1 k2 k3 k4
    · cases h
  | .sl i, X, c, j, x, ok, h => by
    rw [chkE.eq_def] at h; dsimp only at h
    split at h
    · simp only [Bool.and_eq_true, decide_eq_true_eq] at h
      obtain ⟨⟨⟨rfl, h2⟩, h1⟩, rfl⟩ := h
      obtain ⟨k1, k2, k3, k4⟩ := nm_of ok h1
      obtain ⟨g1, g2, g3⟩ := gl_of ok h2
      exact e_sl ok.u66 k1 k2 k3 k4 g1 (ok.blt _ (by decide)) (by decide +kernel) g3 g2
    · cases h
  | .sp i, X, c, j, x, ok, h => by
    rw [chkE.eq_def] at h; dsimp only at h
    split at h
    · simp only [Bool.and_eq_true, decide_eq_true_eq] at h
      obtain ⟨⟨⟨rfl, h1⟩, rfl⟩, h4⟩ := h
      obtain ⟨k1, k2, k3, k4⟩ := nm_of ok h1
      exact e_sp ok.u66 k1 k2 k3 k4 (by rw [h4]; exact beq_self_eq_true _)
    · cases h
theorem sndEs : ∀ (es : Es) {X : Cx} {c : Ctx} {j : Nat} {xs : List Expr}, CtxOk Φ X c j → chkEs c es xs = true → PA X xs (tEs Φ X.K es)
  | .nil, X, c, j, xs, ok, h => by
    rw [chkEs.eq_def] at h; dsimp only at h
    split at h
    · exact a_nil
    · cases h
  | .cons e es, X, c, j, xs, ok, h => by
    rw [chkEs.eq_def] at h; dsimp only at h
    split at h
    · simp only [Bool.and_eq_true] at h
      exact a_cons (sndE e ok h.1.2) (sndEs es ok h.2) (star_of h.1.1)
    · cases h
  | .star e es, X, c, j, xs, ok, h => by
    rw [chkEs.eq_def] at h; dsimp only at h
    cases h
theorem sndEsS : ∀ (es : Es) {X : Cx} {c : Ctx} {j : Nat} {xs : List Expr}, CtxOk Φ X c j → chkEsS c es xs = true → PA X xs (tEs Φ X.K es)
  | .nil, X, c, j, xs, ok, h => by
    rw [chkEsS.eq_def] at h; dsimp only at h
    split at h
    · exact a_nil
    · cases h
  | .cons e es, X, c, j, xs, ok, h => by
    rw [chkEsS.eq_def] at h; dsimp only at h
    split at h
    · simp only [Bool.and_eq_true] at h
      exact a_cons (sndE e ok h.1.2) (sndEsS es ok h.2) (star_of h.1.1)
    · cases h
  | .star e es, X, c, j, xs, ok, h => by
    rw [chkEsS.eq_def] at h; dsimp only at h
    split at h
    · simp only [Bool.and_eq_true] at h
      exact a_star (sndE e ok h.1) (sndEsS es ok h.2)
    · cases h
/-- what is seen of an argument list -/
theorem sndEsC : ∀ (es : Es) {X : Cx} {c : Ctx} {j : Nat} {a : Expr} {as : List Expr}, CtxOk Φ X c j → chkEs c es (a :: as) = true →
    as.all plainE = true ∧ starEach (a :: as) X.env = (false, eval a X.env) :: starEach as X.env ∧ ∀ pos, (backTo pos (starEach as X.env)).any (·.1) = false
  | .nil, X, c, j, a, as, ok, h => by
    rw [chkEs.eq_def] at h; dsimp only at h
    cases h
  | .star e es, X, c, j, a, as, ok, h => by
    rw [chkEs.eq_def] at h; dsimp only at h
    cases h
  | .cons e es, X, c, j, a, as, ok, h => by
    rw [chkEs.eq_def] at h; dsimp only at h
    simp only [Bool.and_eq_true] at h
    refine ⟨?_, star_of h.1.1, fun pos => ?_⟩
    · cases as with
      | nil => rfl
      | cons b bs =>
        have q := h.2
        cases es with
        | nil => rw [chkEs.eq_def] at q; dsimp only at q; cases q
        | star e' es' => rw [chkEs.eq_def] at q; dsimp only at q; cases q
        | cons e' es' =>
          obtain ⟨k1, k2, k3⟩ := sndEsC (.cons e' es') ok q
          rw [chkEs.eq_def] at q; dsimp only at q
          simp only [Bool.and_eq_true] at q
          rw [List.all_cons, k1, q.1.1]
          rfl
    · cases as with
      | nil => rfl
      | cons b bs =>
        have q := h.2
        cases es with
        | nil => rw [chkEs.eq_def] at q; dsimp only at q; cases q
        | star e' es' => rw [chkEs.eq_def] at q; dsimp only at q; cases q
        | cons e' es' =>
          obtain ⟨k1, k2, k3⟩ := sndEsC (.cons e' es') ok q
          rw [k2]
          show (false || (backTo pos (starEach bs X.env)).any (·.1)) = false
          rw [k3 pos]
          rfl
theorem sndOe : ∀ (o : Oe) {X : Cx} {c : Ctx} {j : Nat} {x : Option Expr}, CtxOk Φ X c j → chkOe c o x = true → PO X x (tOe Φ X.K o)
  | .no, X, c, j, x, ok, h => by
    rw [chkOe.eq_def] at h; dsimp only at h
    split at h
    · exact p_no
    · cases h
  | .yes e, X, c, j, x, ok, h => by
    rw [chkOe.eq_def] at h; dsimp only at h
    split at h
    · exact p_yes (sndE e ok h)
    · cases h
theorem sndOc : ∀ (o : Oc) {X : Cx} {c : Ctx} {j : Nat} {xs : List Expr}, CtxOk Φ X c j → chkOc c o xs = true → PTs X xs (tOc Φ X.K o)
  | .no, X, c, j, xs, ok, h => by
    rw [chkOc.eq_def] at h; dsimp only at h
    split at h
    · exact c_no
    · cases h
  | .yes t, X, c, j, xs, ok, h => by
    rw [chkOc.eq_def] at h; dsimp only at h
    split at h
    · exact c_yes (sndT t ok h).1
    · cases h
theorem sndT : ∀ (t : T) {X : Cx} {c : Ctx} {j : Nat} {x : Expr}, CtxOk Φ X c j → chkT c t x = true → PT X x (tT Φ X.K t) ∧ (isBool x = true → PW X x (tT Φ X.K t))
  | .v e, X, c, j, x, ok, h => by
    rw [chkT.eq_def] at h; dsimp only at h
    split at h
    · rename_i op a b
      split at h
      · simp only [Bool.and_eq_true, decide_eq_true_eq] at h
        obtain ⟨⟨⟨rfl, h1⟩, h2⟩, h3⟩ := h
        exact ⟨t_cmp ok.u66 op (sndE a ok h2) (sndE b ok h3) (behind_of h1), fun z => nomatch (show false = true from z)⟩
      · cases h
    · rename_i op op' a b d
      split at h
      · simp only [Bool.and_eq_true, decide_eq_true_eq, Bool.not_eq_true'] at h
        obtain ⟨⟨⟨⟨⟨rfl, rfl⟩, h1⟩, h2⟩, h3⟩, h4⟩ := h
        exact ⟨t_chain ok.u66 op op' (sndE a ok h2) (sndE b ok h3) (sndE d ok h4) h1, fun z => nomatch (show false = true from z)⟩
      · cases h
    · simp only [Bool.and_eq_true] at h
      refine ⟨t_val (sndE _ ok h.2) (true_of h.1.1 h.1.2), fun z => ?_⟩
      have z2 := h.1.2
      cases x <;> first | exact nomatch (show false = true from z) | exact nomatch (show false = true from z2)
  | .not t, X, c, j, x, ok, h => by
    rw [chkT.eq_def] at h; dsimp only at h
    split at h
    · exact ⟨t_not (sndT t ok h).1, fun z => nomatch (show false = true from z)⟩
    · cases h
  | .and a b, X, c, j, x, ok, h => by
    rw [chkT.eq_def] at h; dsimp only at h
    split at h
    · rw [Bool.and_eq_true] at h
      obtain ⟨h1, h2⟩ := h
      rename_i l r rest p
      have q : PW X (.BoolOp .And (l :: r :: rest) p) (tT Φ X.K (.and a b)) := w_and (sndT a ok h1).1 (by
        split at h2
        · exact pw_and1 (sndT b ok h2).1
        · exact (sndT b ok h2).2 rfl)
      exact ⟨q.pt, fun _ => q⟩
    · cases h
  | .or a b, X, c, j, x, ok, h => by
    rw [chkT.eq_def] at h; dsimp only at h
    split at h
    · rw [Bool.and_eq_true] at h
      obtain ⟨h1, h2⟩ := h
      rename_i l r rest p
      have q : PW X (.BoolOp .Or (l :: r :: rest) p) (tT Φ X.K (.or a b)) := w_or (sndT a ok h1).1 (by
        split at h2
        · exact pw_or1 (sndT b ok h2).1
        · exact (sndT b ok h2).2 rfl)
      exact ⟨q.pt, fun _ => q⟩
    · cases h
theorem sndIt : ∀ (i : Vm.It) {X : Cx} {c : Ctx} {j : Nat} {t x : Expr}, CtxOk Φ X c j → chkIt c i t x = true → PI X t x (tIt Φ X.K i)
  | .seq e, X, c, j, t, x, ok, h => by
    rw [chkIt.eq_def] at h; dsimp only at h
    exact i_seq (sndE e ok h)
  | .rng1 e, X, c, j, t, x, ok, h => by
    rw [chkIt.eq_def] at h; dsimp only at h
    split at h
    · simp only [Bool.and_eq_true, decide_eq_true_eq] at h
      obtain ⟨⟨⟨rfl, h2⟩, h3⟩, h4⟩ := h
      exact i_rng1 (gl_of ok h2).1 (ok.blt _ (by decide)) (sndE e ok h4) (star_of h3)
    · cases h
  | .rng2 e e', X, c, j, t, x, ok, h => by
    rw [chkIt.eq_def] at h; dsimp only at h
    split at h
    · simp only [Bool.and_eq_true, decide_eq_true_eq] at h
      obtain ⟨⟨⟨⟨⟨rfl, h2⟩, h3⟩, h4⟩, h5⟩, h6⟩ := h
      exact i_rng2 (gl_of ok h2).1 (ok.blt _ (by decide)) (sndE e ok h5) (sndE e' ok h6) (by rw [star_of h3, star_of h4]; rfl) (star_of h4)
    · cases h
  | .rng3 .., X, c, j, t, x, ok, h => by
    rw [chkIt.eq_def] at h; dsimp only at h
    cases h
  | .enum e, X, c, j, t, x, ok, h => by
    rw [chkIt.eq_def] at h; dsimp only at h
    split at h
    · simp only [Bool.and_eq_true, decide_eq_true_eq] at h
      obtain ⟨⟨⟨rfl, h2⟩, h3⟩, h4⟩ := h
      exact i_enum (gl_of ok h2).1 (ok.blt _ (by decide)) (sndE e ok h4) (star_of h3)
    · cases h
  | .zip e e', X, c, j, t, x, ok, h => by
    rw [chkIt.eq_def] at h; dsimp only at h
    split at h
    · simp only [Bool.and_eq_true, decide_eq_true_eq] at h
      obtain ⟨⟨⟨⟨⟨rfl, h2⟩, h3⟩, h4⟩, h5⟩, h6⟩ := h
      exact i_zip (gl_of ok h2).1 (ok.blt _ (by decide)) (sndE e ok h5) (sndE e' ok h6) (star_of h3) (star_of h4) (by rw [star_of h4]; rfl)
    · cases h
  | .zips e e', X, c, j, t, x, ok, h => by
    rw [chkIt.eq_def] at h; dsimp only at h
    split at h
    · simp only [Bool.and_eq_true, decide_eq_true_eq] at h
      obtain ⟨⟨⟨⟨⟨⟨rfl, rfl⟩, h2⟩, h3⟩, h4⟩, h5⟩, h6⟩ := h
      exact i_zips (gl_of ok h2).1 (ok.blt _ (by decide)) (sndE e ok h5) (sndE e' ok h6) (star_of h3) (star_of h4) (by rw [star_of h4]; rfl)
    · cases h
end
end
end Vm


set_option Elab.async false
set_option linter.all false
set_option maxRecDepth 100000
set_option maxHeartbeats 4000000
/-! Vm, part 21: what is checked is what is computed: statements. -/
namespace Vm
open PySem PySem.Spec PyProof.Rows L2

def isLocN (c : Ctx) : Expr → Bool
  | .Name x _ => decide (c.sc.names.lookup x = some .local)
  | _ => false
def lineOf (ts : List Expr) : Nat := (ts.head?.map (·.pos.line)).getD 0
section
variable {env : Env} {c : Ctx}
theorem bk_of (hs : env.scope = c.sc) (hk : c.sc.kind = .function) : env.blockKind = .function := by
  unfold Env.blockKind
  rw [hs, hk]
  rfl
theorem nostar_of {vs : List Expr} (h : vs.all plainE = true) : (vs.any fun | .Starred .. => true | _ => false) = false := by
  induction vs with
  | nil => rfl
  | cons v vs ih =>
    rw [List.all_cons, Bool.and_eq_true] at h
    rw [List.any_cons, ih h.2]
    have q := h.1
    cases v <;> first | rfl | exact nomatch (show false = true from q)
/-- the pair is not exchanged: a target is no plain local -/
theorem swapped_no {ts vs : List Expr} {k k2 : Nat} {p p2 : Pos} (hs : env.scope = c.sc) (h : ts.any (fun t => !isLocN c t) = true) : swappedStores [.Tuple ts k p] (.Tuple vs k2 p2) env = pure none := by
  have hl : (ts.filterMap fun
    | .Name id pos => if env.kindOf id == some .local && pos.line == (ts.head?.map (·.pos.line)).getD 0 then some id else none
    | _ => none).length ≠ ts.length := by
    generalize (ts.head?.map (·.pos.line)).getD 0 = line
    have lt : ∀ l : List Expr, l.any (fun t => !isLocN c t) = true → (l.filterMap fun
        | .Name id pos => if env.kindOf id == some .local && pos.line == line then some id else none
        | _ => none).length < l.length := by
      intro l
      induction l with
      | nil => intro h; cases h
      | cons t l ih =>
        intro h
        have le : (l.filterMap fun
          | .Name id pos => if env.kindOf id == some .local && pos.line == line then some id else none
          | _ => none).length ≤ l.length := List.length_filterMap_le ..
        rw [List.any_cons, Bool.or_eq_true] at h
        rw [List.filterMap_cons]
        rcases h with h | h
        · have z : (match t with
            | .Name id pos => if env.kindOf id == some .local && pos.line == line then some id else none
            | _ => none) = none := by
            cases t <;> first | rfl | skip
            rename_i x px
            have hx : ¬ c.sc.names.lookup x = some .local := by
              simpa [isLocN] using h
            have hx' : (env.kindOf x == some .local) = false := by
              rw [beq_eq_false_iff_ne]
              show env.scope.names.lookup x ≠ _
              rw [hs]
              exact hx
            simp [hx']
          rw [z]
          simp only [List.length_cons]
          omega
        · have q := ih h
          split <;> simp only [List.length_cons] <;> omega
    exact Nat.ne_of_lt (lt ts h)
  unfold swappedStores
  simp only [pure_bind]
  split
  · rfl
  · split
    · rfl
    · rw [if_pos]
      rw [Bool.or_eq_true]
      exact .inl (bne_iff_ne.mpr hl)
theorem swapped_2 {x y : Str} {px py : Pos} {a b : Expr} {k k2 : Nat} {p p2 : Pos} (hs : env.scope = c.sc) (hk : c.sc.kind = .function) (hx : c.sc.names.lookup x = some .local) (hy : c.sc.names.lookup y = some .local) (hl : py.line = px.line) (hxy : x ≠ y)
    (ha : plainE a = true) (hb : plainE b = true) (hf : (foldedForSure 8 a && foldedForSure 8 b) = false) (hc : (constantsAlone 8 a && constantsAlone 8 b) = false) : swappedStores [.Tuple [.Name x px, .Name y py] k p] (.Tuple [a, b] k2 p2) env = pure (some [x, y]) := by
  have kx : env.kindOf x = some .local := by show env.scope.names.lookup x = _; rw [hs]; exact hx
  have ky : env.kindOf y = some .local := by show env.scope.names.lookup y = _; rw [hs]; exact hy
  have bk := bk_of hs hk
  have ns := nostar_of (vs := [a, b]) (by simp [ha, hb])
  have e1 : (x == y) = false := beq_eq_false_iff_ne.mpr hxy
  have e2 : (y == x) = false := beq_eq_false_iff_ne.mpr (Ne.symm hxy)
  unfold swappedStores
  simp only [pure_bind]
  rw [if_neg (by rw [bk]; simp)]
  split
  · rename_i w
    exact absurd (show (List.any _ _) = true from w) (Bool.not_eq_true _ ▸ ns)
  simp [kx, ky, hl, Expr.pos, List.eraseDups, List.eraseDupsBy, List.eraseDupsBy.loop, e1, e2, hf, hc]
theorem swapped_3 {x y z : Str} {px py pz : Pos} {a b d : Expr} {k k2 : Nat} {p p2 : Pos} (hs : env.scope = c.sc) (hk : c.sc.kind = .function) (hx : c.sc.names.lookup x = some .local) (hy : c.sc.names.lookup y = some .local) (hz : c.sc.names.lookup z = some .local) (hl : py.line = px.line) (hl2 : pz.line = px.line) (hxy : x ≠ y) (hxz : x ≠ z) (hyz : y ≠ z)
    (ha : plainE a = true) (hb : plainE b = true) (hd : plainE d = true) (hf : (foldedForSure 8 a && (foldedForSure 8 b && foldedForSure 8 d)) = false) (hc : (constantsAlone 8 a && (constantsAlone 8 b && constantsAlone 8 d)) = false) :
    swappedStores [.Tuple [.Name x px, .Name y py, .Name z pz] k p] (.Tuple [a, b, d] k2 p2) env = pure (some [x, y, z]) := by
  have kx : env.kindOf x = some .local := by show env.scope.names.lookup x = _; rw [hs]; exact hx
  have ky : env.kindOf y = some .local := by show env.scope.names.lookup y = _; rw [hs]; exact hy
  have kz : env.kindOf z = some .local := by show env.scope.names.lookup z = _; rw [hs]; exact hz
  have bk := bk_of hs hk
  have ns := nostar_of (vs := [a, b, d]) (by simp [ha, hb, hd])
  have e1 : (x == y) = false := beq_eq_false_iff_ne.mpr hxy
  have e2 : (y == x) = false := beq_eq_false_iff_ne.mpr (Ne.symm hxy)
  have e3 : (x == z) = false := beq_eq_false_iff_ne.mpr hxz
  have e4 : (z == x) = false := beq_eq_false_iff_ne.mpr (Ne.symm hxz)
  have e5 : (y == z) = false := beq_eq_false_iff_ne.mpr hyz
  have e6 : (z == y) = false := beq_eq_false_iff_ne.mpr (Ne.symm hyz)
  unfold swappedStores
  simp only [pure_bind]
  rw [if_neg (by rw [bk]; simp)]
  split
  · rename_i w
    exact absurd (show (List.any _ _) = true from w) (Bool.not_eq_true _ ▸ ns)
  simp [kx, ky, kz, hl, hl2, Expr.pos, List.eraseDups, List.eraseDupsBy, List.eraseDupsBy.loop, e1, e2, e3, e4, e5, e6, hf, hc]
end

/-! ### the check -/
def namesOk (c : Ctx) : List Nat → List Expr → Bool
  | [], [] => true
  | i :: is, .Name x _ :: ts => locOk c i x && namesOk c is ts
  | _, _ => false
def parOk (c : Ctx) (is : List Nat) (ts vs : List Expr) : Bool :=
  match is, ts, vs with
  | [i, j], [.Name x px, .Name y py], [a, b] =>
    (plocOk c i x && plocOk c j y && decide (i ≠ j) && decide (x ≠ y) && decide (py.line = px.line) && plainE a && plainE b && !(foldedForSure 8 a && foldedForSure 8 b) && !(constantsAlone 8 a && constantsAlone 8 b)) ||
      (namesOk c is ts && ts.any (fun t => !isLocN c t))
  | [i, j, l], [.Name x px, .Name y py, .Name z pz], [a, b, d] =>
    (plocOk c i x && plocOk c j y && plocOk c l z && decide (i ≠ j) && decide (i ≠ l) && decide (j ≠ l) && decide (x ≠ y) && decide (x ≠ z) && decide (y ≠ z) && decide (py.line = px.line) && decide (pz.line = px.line) && plainE a && plainE b && plainE d &&
      !(foldedForSure 8 a && (foldedForSure 8 b && foldedForSure 8 d)) && !(constantsAlone 8 a && (constantsAlone 8 b && constantsAlone 8 d))) || (namesOk c is ts && ts.any (fun t => !isLocN c t))
  | _, _, _ => false
def chkLcSet (c : Ctx) (i : Nat) (y : Str) (py : Pos) : E → Expr → Bool
  | .lc m e tg it oc own, .ListComp elt [⟨t, i', ifs, 0⟩] scope pos => plocOk c i y && (py.line == pos.line) && !(scope.names.any fun (n, k) => n == y && (k == .local || k == .cell)) && chkE c (.lc m e tg it oc own) (.ListComp elt [⟨t, i', ifs, 0⟩] scope pos)
  | _, _ => false
theorem swap_cell {v : Expr} {y : Str} {py : Pos} {l : Nat} {env : Env} {c : Vm.Ctx} (h : plainE v = true) (hs : env.scope = c.sc) (hy : c.sc.names.lookup y ≠ some .local) : swapsWith v (some (.Name y py)) l env = pure false := by
  have kx : (env.kindOf y == some .local) = false := by
    rw [beq_eq_false_iff_ne]
    show env.scope.names.lookup y ≠ _
    rw [hs]; exact hy
  cases v <;> first | rfl | exact nomatch (show false = true from h) | skip
  unfold swapsWith
  simp only [kx, Bool.and_false, Bool.false_and]
theorem aug_of {b : Expr} (h : plainE b = true) : ∀ ov iv new, augStore b ov iv new = (do holding [new, ov, iv] (setItem ov iv new); release [new, ov, iv] []; pure .next) := by
  intro ov iv new
  cases b <;> first | rfl | exact nomatch (show false = true from h)
def noTupE : Expr → Bool
  | .Tuple .. => false
  | .List .. => false
  | _ => true
mutual
def chkS (c : Ctx) : S → Stmt → Bool
  | .set i e, x => match x with
    | .Assign [.Name y py] v _ => (locOk c i y && plainE v && (noLc v || decide (c.sc.names.lookup y ≠ some .local)) && chkE c e v) || chkLcSet c i y py e v
    | _ => false
  | .par is es, x => match x with
    | .Assign [.Tuple ts _ _] (.Tuple vs _ _) _ => chkEs c es vs && parOk c is ts vs
    | _ => false
  | .unp ts e, x => match x with
    | .Assign [.Tuple xs _ _] v _ => plainE v && noLc v && noTupE v && chkTgs c ts xs && chkE c e v
    | _ => false
  | .aug i op e, x => match x with
    | .AugAssign (.Name y _) o v _ => locOk c i y && decide (o = op.op) && (decide (op = .add) || decide (op = .sub)) && chkE c e v
    | _ => false
  | .sti i k e, x => match x with
    | .Assign [.Subscript (.Name y _) b _] v _ => nmOk c i y && plainE b && plainE v && noLc v && chkE c k b && chkE c e v
    | _ => false
  | .aui i k op e, x => match x with
    | .AugAssign (.Subscript (.Name y _) b _) o v _ => nmOk c i y && decide (o = op.op) && (decide (op = .add) || decide (op = .sub)) && chkE c k b && chkE c e v && plainE b
    | _ => false
  | .app i e, x => match x with
    | .Expr (.Call (.Attribute (.Name y _) g ap) [a] [] cp) _ => nmOk c i y && decide (g = Str.ofString "append") && decide (ap.endLine = cp.line) && plainE a && chkE c e a
    | _ => false
  | .ext .., _ => false
  | .ap2 .., _ => false
  | .expr _, _ => false
  | .ifs t a b, x => match x with
    | .If y A B _ => chkT c t y && chkSs c a A && chkSs c b B
    | _ => false
  | .forr tg it b, x => match x with
    | .For t i B [] _ => plainE i && chkIt c it t i && chkTg c tg t && chkSs c b B
    | _ => false
  | .whl _ t b, x => match x with
    | .While y B [] _ => chkT c t y && chkSs c b B
    | _ => false
  | .sw i k e, x => match x with
    | .Assign [.Subscript (.Name y _) (.Constant (.str t) _ _) _] v _ => nmOk c i y && decide (t = k) && plainE v && noLc v && chkE c e v
    | _ => false
  | .ret e, x => match x with
    | .Return (some a) _ => chkE c e a
    | _ => false
  | .retn, x => match x with
    | .Return none _ => true
    | _ => false
  | .brk, x => match x with
    | .Break _ => true
    | _ => false
  | .cnt, x => match x with
    | .Continue _ => true
    | _ => false
  | .pass, x => match x with
    | .Pass _ => true
    | _ => false
def chkSs (c : Ctx) : Ss → List Stmt → Bool
  | .nil, x => match x with
    | [] => true
    | _ => false
  | .cons s ss, x => match x with
    | a :: as => chkS c s a && chkSs c ss as
    | _ => false
end

/-! ### it is sound -/
section
variable {Φ : Fs} {X : Cx} {c : Ctx} {j : Nat}
theorem ploc_of (ok : CtxOk Φ X c j) {i : Nat} {x : Str} (h : plocOk c i x = true) : X.N[i]? = some x ∧ X.env.scope.names.lookup x = some .local ∧ c.sc.names.lookup x = some .local := by
  unfold plocOk at h
  simp only [Bool.and_eq_true, decide_eq_true_eq] at h
  exact ⟨by rw [ok.N]; exact h.1, by rw [ok.sc]; exact h.2, h.2⟩
theorem names_of (ok : CtxOk Φ X c j) : ∀ {is : List Nat} {ts : List Expr}, namesOk c is ts = true → PGs X ts (gNms is) ∧ (assignEach ts X.env).length = is.length ∧ (assignEach ts X.env).findIdx? (·.1) = none
  | [], [], _ => ⟨gn_nil, rfl, rfl⟩
  | [], _ :: _, h => by cases h
  | _ :: _, [], h => by cases h
  | i :: is, t :: ts, h => by
    cases t <;> first | (exact nomatch (show false = true from h)) | skip
    rename_i x px
    have h : (locOk c i x && namesOk c is ts) = true := h
    rw [Bool.and_eq_true] at h
    obtain ⟨h1, h2, h3⟩ := names_of ok h.2
    obtain ⟨k1, k2, k3⟩ := loc_of ok h.1
    refine ⟨gn_cons (pg_name (nd_of ok) k1 k2 k3) h1 rfl, ?_, ?_⟩
    · show (assignEach ts X.env).length + 1 = is.length + 1
      rw [h2]
    · show ((false, assign (.Name x px) X.env) :: assignEach ts X.env).findIdx? (·.1) = none
      rw [List.findIdx?_cons, h3]
      rfl
theorem snd_par (ok : CtxOk Φ X c j) {is : List Nat} {ts vs : List Expr} {es : Es} {kt k2 : Nat} {pt pt2 pos : Pos} (h1 : chkEs c es vs = true) (h2 : parOk c is ts vs = true) : PS X (.Assign [.Tuple ts kt pt] (.Tuple vs k2 pt2) pos) (tS Φ X.K (.par is es)) := by
  have ha := sndEs es ok h1
  have byT : is.length ≤ sizeLine → (namesOk c is ts && ts.any (fun t => !isLocN c t)) = true → PS X (.Assign [.Tuple ts kt pt] (.Tuple vs k2 pt2) pos) (tS Φ X.K (.par is es)) := fun hz h => by
    rw [Bool.and_eq_true] at h
    obtain ⟨g1, g2, g3⟩ := names_of ok h.1
    exact s_parT ok.calm g1 g2 g3 hz ha (swapped_no ok.sc h.2)
  unfold parOk at h2
  split at h2
  · rw [Bool.or_eq_true] at h2
    rcases h2 with h2 | h2
    · simp only [Bool.and_eq_true, decide_eq_true_eq, Bool.not_eq_true'] at h2
      obtain ⟨⟨⟨⟨⟨⟨⟨⟨z1, z2⟩, z3⟩, z4⟩, z5⟩, z6⟩, z7⟩, z8⟩, z9⟩ := h2
      obtain ⟨a1, a2, a3⟩ := ploc_of ok z1
      obtain ⟨b1, b2, b3⟩ := ploc_of ok z2
      exact s_par2 ok.calm (nd_of ok) a1 b1 z3 a2 b2 ha (swapped_2 ok.sc ok.kind a3 b3 z5 z4 z6 z7 z8 z9)
    · exact byT (by rw [sizeLine_eq]; simp) h2
  · rw [Bool.or_eq_true] at h2
    rcases h2 with h2 | h2
    · simp only [Bool.and_eq_true, decide_eq_true_eq, Bool.not_eq_true'] at h2
      obtain ⟨⟨⟨⟨⟨⟨⟨⟨⟨⟨⟨⟨⟨⟨⟨z1, z2⟩, z3⟩, z4⟩, z5⟩, z6⟩, z7⟩, z8⟩, z9⟩, y1⟩, y2⟩, y3⟩, y4⟩, y5⟩, y6⟩, y7⟩ := h2
      obtain ⟨a1, a2, a3⟩ := ploc_of ok z1
      obtain ⟨b1, b2, b3⟩ := ploc_of ok z2
      obtain ⟨d1, d2, d3⟩ := ploc_of ok z3
      exact s_par3 ok.calm (nd_of ok) a1 b1 d1 z4 z5 z6 a2 b2 d2 ha (swapped_3 ok.sc ok.kind a3 b3 d3 y1 y2 z7 z8 z9 y3 y4 y5 y6 y7)
    · exact byT (by rw [sizeLine_eq]; simp) h2
  · cases h2
end
theorem snd_lcSet {Φ : Fs} {X : Cx} {c : Ctx} {j : Nat} {i : Nat} {y : Str} {py pos : Pos} {e : E} {v : Expr} (ok : CtxOk Φ X c j) (h : chkLcSet c i y py e v = true) : PS X (.Assign [.Name y py] v pos) (tS Φ X.K (.set i e)) := by
  unfold chkLcSet at h
  split at h
  case h_2 => cases h
  rename_i m e tg it oc own elt t i' ifs scope p2
  simp only [Bool.and_eq_true, Bool.not_eq_true'] at h
  obtain ⟨⟨⟨a1, a2⟩, a3⟩, h⟩ := h
  obtain ⟨n1, n2, n3⟩ := ploc_of ok a1
  rw [chkE.eq_def] at h; dsimp only at h
  simp only [Bool.and_eq_true, decide_eq_true_eq, Bool.not_eq_true', List.all_eq_true] at h
  obtain ⟨⟨⟨⟨⟨⟨⟨⟨rfl, h1⟩, h2⟩, h3⟩, h4⟩, h5⟩, h6⟩, h7⟩, h8⟩ := h
  have eo : (own.map fun (k : Nat) => (((c.N[k]?).getD "" : Str), k)).map (·.2) = own := by rw [List.map_map]; exact List.map_id' own
  have blk : BlkOk X.N X.env.scope scope (own.map fun (k : Nat) => (((c.N[k]?).getD "" : Str), k)) := by rw [ok.N, ok.sc]; exact blkOk_by h1
  have q := s_setLc (Φ := Φ) (ee := e) (et := tg) (ei := it) (ec := oc) (elt := elt) (pos := p2) (spos := pos) (i := i) (y := y) (py := py) ok.calm (nd_of ok) n1 n2 (sw_true (by rw [ok.sc]; exact ok.kind) n2 a2 a3) (sndIt it ok h5) blk (fun k hk => by rw [eo]; exact h4 k hk)
    (fun s H C cl fp => sndTg tg (blk_of ok h2 s H C cl fp) h6) (fun s H C cl fp => sndOc oc (blk_of ok h2 s H C cl fp) h7) (fun s H C cl fp => sndE e (blk_of ok h2 s H C cl fp) h8) (fold_of h3)
  rw [eo] at q
  refine PS.imp q fun D σ H h => ?_
  obtain ⟨F, S, st, A, out, R, e, k⟩ := h
  rw [evS] at e
  obtain ⟨⟨o, s1⟩, h1, e⟩ := bindE e
  obtain ⟨s2, h2, e⟩ := mapE e
  cases e
  exact one_read R h1 fun v F' H' A' B q => k _ _ _ _ (q.put h2)
section
variable {Φ : Fs}
mutual
theorem sndS : ∀ (e : S) {X : Cx} {c : Ctx} {j : Nat} {x : Stmt}, CtxOk Φ X c j → chkS c e x = true → PS X x (tS Φ X.K e)
  | .set i e, X, c, j, x, ok, h => by
    rw [chkS.eq_def] at h; dsimp only at h
    split at h
    · rename_i y py v pv
      rw [Bool.or_eq_true] at h
      rcases h with h | h
      · simp only [Bool.and_eq_true] at h
        obtain ⟨⟨⟨h1, h2⟩, h3⟩, h4⟩ := h
        obtain ⟨k1, k2, k3⟩ := loc_of ok h1
        exact s_set (nd_of ok) k1 k2 (sndE e ok h4) (by
          rw [Bool.or_eq_true, decide_eq_true_eq] at h3
          rcases h3 with h3 | h3
          · exact swap_of h2 h3
          · exact swap_cell h2 ok.sc h3) k3
      · exact snd_lcSet ok h
    · cases h
  | .par is es, X, c, j, x, ok, h => by
    rw [chkS.eq_def] at h; dsimp only at h
    split at h
    · rw [Bool.and_eq_true] at h
      exact snd_par ok h.1 h.2
    · cases h
  | .unp ts e, X, c, j, x, ok, h => by
    rw [chkS.eq_def] at h; dsimp only at h
    split at h
    · rename_i xs kt pt v pv
      simp only [Bool.and_eq_true] at h
      obtain ⟨⟨⟨⟨h1, h2⟩, h3⟩, h4⟩, h5⟩ := h
      have hg : PG X (.Tuple xs kt pt) (gT X.K (.tp ts)) := sndTg (.tp ts) ok (by rw [chkTg.eq_def]; exact h4)
      refine s_unp hg (sndE e ok h5) ?_ ?_
      · cases v <;> first | rfl | exact nomatch (show false = true from h1) | exact nomatch (show false = true from h2)
      · cases v <;> first | rfl | exact nomatch (show false = true from h1) | exact nomatch (show false = true from h3)
    · cases h
  | .aug i op e, X, c, j, x, ok, h => by
    rw [chkS.eq_def] at h; dsimp only at h
    split at h
    · simp only [Bool.and_eq_true, decide_eq_true_eq, Bool.or_eq_true] at h
      obtain ⟨⟨⟨h1, rfl⟩, h3⟩, h4⟩ := h
      obtain ⟨k1, k2, k3⟩ := loc_of ok h1
      exact s_aug h3 (nd_of ok) k1 k2 (sndE e ok h4) k3
    · cases h
  | .sti i k e, X, c, j, x, ok, h => by
    rw [chkS.eq_def] at h; dsimp only at h
    split at h
    · rename_i y py b pb v pv
      simp only [Bool.and_eq_true] at h
      obtain ⟨⟨⟨⟨⟨h1, h2⟩, h3⟩, h4⟩, h5⟩, h6⟩ := h
      obtain ⟨k1, k2, k3, k4⟩ := nm_of ok h1
      refine s_sti ok.u66 k1 k2 k3 k4 (sndE k ok h5) (sndE e ok h6) (show swapsWith v (some (.Subscript (.Name y py) b pb)) pv.line X.env = pure false from swap_of h3 h4) fun w => ?_
      cases b <;> first | rfl | exact nomatch (show false = true from h2)
    · cases h
  | .aui i k op e, X, c, j, x, ok, h => by
    rw [chkS.eq_def] at h; dsimp only at h
    split at h
    · simp only [Bool.and_eq_true, decide_eq_true_eq, Bool.or_eq_true] at h
      obtain ⟨⟨⟨⟨⟨h1, rfl⟩, h3⟩, h4⟩, h5⟩, h6⟩ := h
      obtain ⟨k1, k2, k3, k4⟩ := nm_of ok h1
      exact s_aui h3 ok.u66 k1 k2 k3 k4 (sndE k ok h4) (sndE e ok h5) (aug_of h6)
    · cases h
  | .app i e, X, c, j, x, ok, h => by
    rw [chkS.eq_def] at h; dsimp only at h
    split at h
    · simp only [Bool.and_eq_true, decide_eq_true_eq] at h
      obtain ⟨⟨⟨⟨h1, rfl⟩, h3⟩, h4⟩, h5⟩ := h
      obtain ⟨k1, k2, k3, k4⟩ := nm_of ok h1
      exact s_app k1 k2 k3 k4 (sndE e ok h5) (by rw [h3]; exact beq_self_eq_true _) (star_of h4) (by rw [star_of h4]; rfl)
    · cases h
  | .ext .., X, c, j, x, ok, h => by
    rw [chkS.eq_def] at h; dsimp only at h
    cases h
  | .ap2 .., X, c, j, x, ok, h => by
    rw [chkS.eq_def] at h; dsimp only at h
    cases h
  | .expr _, X, c, j, x, ok, h => by
    rw [chkS.eq_def] at h; dsimp only at h
    cases h
  | .ifs t a b, X, c, j, x, ok, h => by
    rw [chkS.eq_def] at h; dsimp only at h
    split at h
    · simp only [Bool.and_eq_true] at h
      obtain ⟨⟨h1, h2⟩, h3⟩ := h
      exact s_ifs (sndT t ok h1).1 (sndSs a ok h2) (sndSs b ok h3)
    · cases h
  | .forr tg it b, X, c, j, x, ok, h => by
    rw [chkS.eq_def] at h; dsimp only at h
    split at h
    · simp only [Bool.and_eq_true] at h
      obtain ⟨⟨⟨h1, h2⟩, h3⟩, h4⟩ := h
      exact s_forr (by rw [ok.xe]; exact PassesOwn.never) ok.calm (sndIt it ok h2) (sndTg tg ok h3) (sndSs b ok h4) (fold_of h1)
    · cases h
  | .whl f t b, X, c, j, x, ok, h => by
    rw [chkS.eq_def] at h; dsimp only at h
    split at h
    · rw [Bool.and_eq_true] at h
      exact s_whl (by rw [ok.xe]; exact PassesOwn.never) (sndT t ok h.1).1 (sndSs b ok h.2)
    · cases h
  | .sw i k e, X, c, j, x, ok, h => by
    rw [chkS.eq_def] at h; dsimp only at h
    split at h
    · rename_i y py t kk pk pt v pv
      simp only [Bool.and_eq_true, decide_eq_true_eq] at h
      obtain ⟨⟨⟨⟨h1, rfl⟩, h3⟩, h4⟩, h5⟩ := h
      obtain ⟨k1, k2, k3, k4⟩ := nm_of ok h1
      exact s_sw ok.u66 k1 k2 k3 k4 (sndE e ok h5) (show swapsWith v (some (.Subscript (.Name y py) (.Constant (.str t) kk pk) pt)) pv.line X.env = pure false from swap_of h3 h4)
    · cases h
  | .ret e, X, c, j, x, ok, h => by
    rw [chkS.eq_def] at h; dsimp only at h
    split at h
    · exact s_ret (sndE e ok h)
    · cases h
  | .retn, X, c, j, x, ok, h => by
    rw [chkS.eq_def] at h; dsimp only at h
    split at h
    · exact s_retn
    · cases h
  | .brk, X, c, j, x, ok, h => by
    rw [chkS.eq_def] at h; dsimp only at h
    split at h
    · exact s_brk
    · cases h
  | .cnt, X, c, j, x, ok, h => by
    rw [chkS.eq_def] at h; dsimp only at h
    split at h
    · exact s_cnt
    · cases h
  | .pass, X, c, j, x, ok, h => by
    rw [chkS.eq_def] at h; dsimp only at h
    split at h
    · exact s_pass
    · cases h
theorem sndSs : ∀ (e : Ss) {X : Cx} {c : Ctx} {j : Nat} {x : List Stmt}, CtxOk Φ X c j → chkSs c e x = true → PSs X x (tSs Φ X.K e)
  | .nil, X, c, j, x, ok, h => by
    rw [chkSs.eq_def] at h; dsimp only at h
    split at h
    · exact ss_nil
    · cases h
  | .cons s ss, X, c, j, x, ok, h => by
    rw [chkSs.eq_def] at h; dsimp only at h
    split at h
    · rw [Bool.and_eq_true] at h
      exact ss_cons (sndS s ok h.1) (sndSs ss ok h.2)
    · cases h
end
end
end Vm


set_option Elab.async false
set_option linter.all false
set_option maxRecDepth 100000
set_option maxHeartbeats 4000000
/-! Vm, part 22: a function of the text keeps its promise. -/
namespace Vm
open PySem PySem.Spec PyProof.Rows L2

section
variable {K : PySem.W.Frag} {F H : Hp} {S : List Addr} {os : List O} {vs : List V} {N : List Str} {src : Option Src}
theorem args_get : ∀ {os : List O} {vs : List V} {i : Nat} {o : O}, Args K F H S os vs → os[i]? = some o → ∃ v, vs[i]? = some v ∧ OwnAt K F H S [] o v []
  | [], _, _, _, .nil, e => by simp at e
  | _ :: _, _ :: _, 0, _, .cons h _, e => ⟨_, rfl, by simp at e; exact e ▸ h⟩
  | _ :: _, _ :: _, i + 1, _, .cons _ t, e => by
    obtain ⟨v, h1, h2⟩ := args_get (i := i) t (by simpa using e)
    exact ⟨v, by simpa using h1, h2⟩
/-- the state at a function's entry -/
theorem rel_start (s : Same F H) (sr : SrcRel F H S src) (a : Args K F H S os vs) : Rel K F H S (start N vs) ⟨initR N.length os, src⟩ (fun _ => []) where
  same := s
  slots := fun i o e => by
    have e : (os.map some ++ List.replicate (N.length - os.length) none)[i]? = some (some o) := e
    have hi : i < os.length := by
      refine Nat.lt_of_not_le fun z => ?_
      rw [List.getElem?_append_right (by simpa using z), List.getElem?_replicate] at e
      split at e <;> cases e
    rw [List.getElem?_append_left (by simpa using hi), List.getElem?_map] at e
    cases q : os[i]? with
    | none => rw [q] at e; cases e
    | some o' =>
      rw [q] at e
      cases e
      obtain ⟨v, h1, h2⟩ := args_get a q
      refine ⟨v, ?_, h2.reslot⟩
      show (vs.map some ++ List.replicate (N.length - vs.length) none)[i]? = some (some v)
      rw [List.getElem?_append_left (by rw [List.length_map, ← Paired.len a]; exact hi), List.getElem?_map, h1]
      rfl
  nobor := fun i j e => by
    have e : (os.map some ++ List.replicate (N.length - os.length) none)[i]? = some (some (O.bor j)) := e
    have hi : i < os.length := by
      refine Nat.lt_of_not_le fun z => ?_
      rw [List.getElem?_append_right (by simpa using z), List.getElem?_replicate] at e
      split at e <;> cases e
    rw [List.getElem?_append_left (by simpa using hi), List.getElem?_map] at e
    cases q : os[i]? with
    | none => rw [q] at e; cases e
    | some o' =>
      rw [q] at e
      cases e
      obtain ⟨v, h1, h2⟩ := args_get a q
      have z := (show _ ∧ _ from h2).2
      simp at z
  nod := fun _ => List.nodup_nil
  dis := fun _ _ _ h => nomatch h
  out := fun _ _ h => nomatch h
  emp := fun _ _ => rfl
  src := sr
  len := by
    show (os.map some ++ List.replicate (N.length - os.length) none).length ≤ (vs.map some ++ List.replicate (N.length - vs.length) none).length
    simp only [List.length_append, List.length_map, List.length_replicate]
    rw [Paired.len a]
    exact Nat.le_refl _
end
theorem no_ow {b : Addr} (h : Ow [] (fun _ => []) b) : False := by
  rcases h with h | ⟨_, h⟩ <;> cases h
theorem ow_S {S : List Addr} {b : Addr} (h : Ow S (fun _ => []) b) : b ∈ S := by
  rcases h with h | ⟨_, h⟩
  · exact h
  · cases h
theorem PostR.resP {K : PySem.W.Frag} {F H F' H' : Hp} {o : O} {s' : Option Src} {v : V} {B : List Addr} (p : PostR K F H [] (fun _ => []) o s' v F' H' B) : ResAt K F H o v F' H' B :=
  ⟨⟨p.step.fr, fun b u e => p.step.keep b u e no_ow, p.same, fun b h => by
    rcases p.step.frz b h with z | z | z
    · exact .inl z
    · exact (no_ow z).elim
    · exact .inr z⟩, p.own, p.nod, fun b hb => ⟨by
    rcases p.step.own b (.inr hb) with z | z
    · exact (no_ow z).elim
    · exact z, (p.new b hb).1, (p.new b hb).2.2⟩⟩
theorem PostR.resS {K : PySem.W.Frag} {F H F' H' : Hp} {S : List Addr} {o : O} {s' : Src} {v : V} {B : List Addr} (p : PostR K F H S (fun _ => []) o (some s') v F' H' B) : ResS K F H S o s' v F' H' B :=
  ⟨p.step.wide fun _ h => ow_S h, p.same, p.src, p.own, p.nod, fun b hb => ⟨by
    rcases p.step.own b (.inr hb) with z | z
    · exact absurd (ow_S z) (p.new b hb).2.1
    · exact z, (p.new b hb).1, (p.new b hb).2.2⟩⟩
theorem PostT.retN {K : PySem.W.Frag} {F H F' H' : Hp} {S : List Addr} {σ σ' : L2.St} {A A' : Nat → List Addr} {st' : St} (p : PostT K F H S σ σ' A st' F' H' A') : PostR K F H S A (.d .none) st'.src .non F' H' [] :=
  ⟨p.step.weak fun b h => h.elim .inl (fun z => nomatch z), p.rel.same, p.rel.src, ⟨rfl, .non⟩, List.nodup_nil, fun _ z => nomatch z⟩

/-- the facts of the text that every function uses -/
structure Base (P : Program) (w : World) (K : PySem.W.Frag) (mg : Str → Option Value) (base : Heap) (Φ : Fs) (j : Nat) : Prop where
  blt : ∀ x ∈ bNames, mg x = none
  pf : ∀ f n φ, Φ.p f = some (n, φ) → ∃ k, k ≤ j ∧ C8.Cal P w K mg base k f (spP K n φ) []
  sf : ∀ f n φ, Φ.s f = some (n, φ) → ∃ k, k ≤ j ∧ C8.Cal P w K mg base k f (spS K n φ) []
section
variable {P : Program} {w : World} {K : PySem.W.Frag} {mg : Str → Option Value} {base : Heap} {Φ : Fs} {j : Nat} {x : Str} {st : Stmt} {f : Addr} {fd : FuncData} {N ps : List Str} {a : Ss}
theorem ctx_of (B : Base P w K mg base Φ j) (S : FnScope N ps (C8.fnScope st)) {cdv : Value} {A : Around} {outer : List Env} {s : Shared} {H : Hp} {E : XK} {rp : Bool} (hg : rp = true → A.guards = some [])
    (hr : Room j (A.deeper (envOfC x (C8.fnScope st) s.heap.objs.size f cdv))) : CtxOk Φ (cxOf C8.CX0 P w K mg base N x (C8.fnScope st) f cdv A outer s H E).nox ⟨N, C8.fnScope st, fun _ => true, rp⟩ j where
  N := rfl
  nd := S.nd
  sc := rfl
  kind := S.kind
  fn := fun _ _ => rfl
  calm := rfl
  xe := rfl
  room := hr
  blt := B.blt
  rp := hg
  pf := B.pf
  sf := B.sf
theorem fn_P (B : Base P w K mg base Φ j) (D : C8.Def K mg x st f fd) (b : Binds K fd ps []) (S : FnScope N ps (C8.fnScope st)) (hc : chkSs ⟨N, C8.fnScope st, fun _ => true, false⟩ a (C8.fnBody st) = true) : C8.Cal P w K mg base (j + 1) x (spP K ps.length (runP Φ N.length a)) [] :=
  C8.cal0 D b .nil S (fun vs H Q E h => h.1) fun cdv A outer s H vs Q E hr hsp => by
    obtain ⟨hl, F, os, r, sm, ar, hφ, k⟩ := hsp
    refine ⟨tSs Φ K a, sndSs a (ctx_of B S (rp := false) (fun z => nomatch z) hr) hc, ?_⟩
    unfold runP at hφ
    split at hφ
    · rename_i o src' he
      cases hφ
      exact ⟨F, [], _, fun _ => [], _, rel_start (N := N) (src := none) sm rfl ar, he, fun v F' H' B q => k _ _ _ _ q.resP⟩
    · rename_i st' he
      cases hφ
      exact ⟨F, [], _, fun _ => [], _, rel_start (N := N) (src := none) sm rfl ar, he, fun σ' F' H' A' q => k _ _ _ _ q.retN.resP⟩
    · cases hφ
theorem fn_S (B : Base P w K mg base Φ j) (D : C8.Def K mg x st f fd) (b : Binds K fd ps []) (S : FnScope N ps (C8.fnScope st)) (hc : chkSs ⟨N, C8.fnScope st, fun _ => true, false⟩ a (C8.fnBody st) = true) : C8.Cal P w K mg base (j + 1) x (spS K ps.length (runS Φ N.length a)) [] :=
  C8.cal0 D b .nil S (fun vs H Q E h => h.1) fun cdv A outer s H vs Q E hr hsp => by
    obtain ⟨hl, F, Sa, src, os, r, src', sm, sr, ar, hφ, k⟩ := hsp
    refine ⟨tSs Φ K a, sndSs a (ctx_of B S (rp := false) (fun z => nomatch z) hr) hc, ?_⟩
    unfold runS at hφ
    split at hφ
    · rename_i o s' he
      cases hφ
      exact ⟨F, Sa, _, fun _ => [], _, rel_start (N := N) (src := some src) sm sr ar, he, fun v F' H' B q => k _ _ _ _ q.resS⟩
    · rename_i st' he
      obtain ⟨s', hs, hφ⟩ := mapE hφ
      cases hφ
      exact ⟨F, Sa, _, fun _ => [], _, rel_start (N := N) (src := some src) sm sr ar, he, fun σ' F' H' A' q => k _ _ _ _ (by
        have z := q.retN
        rw [hs] at z
        exact z.resS)⟩
    · cases hφ
/-- nothing is known of it -/
theorem fn_S0 (D : C8.Def K mg x st f fd) (b : Binds K fd ps []) : C8.Cal P w K mg base j x (spS K ps.length (fun _ _ => none)) [] :=
  ⟨f, fd, ps, [], ⟨fun vs H Q E h => h.1, fun A outer s H args us vs Q E hr he hb hv hs => by
    obtain ⟨_, F, Sa, src, os, r, src', _, _, _, hφ, _⟩ := hs
    cases hφ⟩, D.mgf, D.kp, b, .nil⟩

/-! ### tables of functions -/
def Fs.none : Fs := ⟨fun _ => Option.none, fun _ => Option.none⟩
def Fs.addP (Φ : Fs) (x : Str) (n : Nat) (φ : PFn) : Fs := ⟨fun y => if y = x then some (n, φ) else Φ.p y, Φ.s⟩
def Fs.addS (Φ : Fs) (x : Str) (n : Nat) (φ : SFn) : Fs := ⟨Φ.p, fun y => if y = x then some (n, φ) else Φ.s y⟩
theorem base0 (h : ∀ x ∈ bNames, mg x = Option.none) : Base P w K mg base .none 0 := ⟨h, fun _ _ _ e => (by cases e), fun _ _ _ e => (by cases e)⟩
theorem Base.addP (B : Base P w K mg base Φ j) {n : Nat} {φ : PFn} {k : Nat} (hk : j ≤ k) (c : C8.Cal P w K mg base k x (spP K n φ) []) : Base P w K mg base (Φ.addP x n φ) k where
  blt := B.blt
  pf := fun y m ψ e => by
    have e : (if y = x then some (n, φ) else Φ.p y) = some (m, ψ) := e
    split at e
    · rename_i z
      cases e
      exact ⟨k, Nat.le_refl _, z ▸ c⟩
    · obtain ⟨k', h1, h2⟩ := B.pf y m ψ e
      exact ⟨k', Nat.le_trans h1 hk, h2⟩
  sf := fun y m ψ e => let ⟨k', h1, h2⟩ := B.sf y m ψ e; ⟨k', Nat.le_trans h1 hk, h2⟩
theorem Base.addS (B : Base P w K mg base Φ j) {n : Nat} {φ : SFn} {k : Nat} (hk : j ≤ k) (c : C8.Cal P w K mg base k x (spS K n φ) []) : Base P w K mg base (Φ.addS x n φ) k where
  blt := B.blt
  sf := fun y m ψ e => by
    have e : (if y = x then some (n, φ) else Φ.s y) = some (m, ψ) := e
    split at e
    · rename_i z
      cases e
      exact ⟨k, Nat.le_refl _, z ▸ c⟩
    · obtain ⟨k', h1, h2⟩ := B.sf y m ψ e
      exact ⟨k', Nat.le_trans h1 hk, h2⟩
  pf := fun y m ψ e => let ⟨k', h1, h2⟩ := B.pf y m ψ e; ⟨k', Nat.le_trans h1 hk, h2⟩
end
end Vm


set_option Elab.async false
set_option linter.all false
set_option maxRecDepth 100000
set_option maxHeartbeats 4000000
/-! Vm, part 23: the law's end: the call at the place where no repr is under way. -/
namespace Vm
open PySem PySem.Spec PyProof.Rows L2

/-- what is wanted of the law's call: it gives True -/
def LawAt (P : Program) (w : World) (K : PySem.W.Frag) (mg : Str → Option Value) (base : Heap) (fa : Addr) (fd : FuncData) (x : Str) (n : Nat) : Prop :=
  ∀ (s : Shared) (H : Hp) (a : Addr) (ns : List Int), Env0 P w K mg base callerA [] s H → ns.length ≤ n → (∀ z ∈ ns, Builtin.Int.intBits z ≤ 1048576) → Only H → SqL K H a (ns.map V.int) → BindsTo s fd ⟨[.ref a], []⟩ [(x, .ref a)] →
    codeAny (model P w) callerA (.call (.ref fa) ⟨[.ref a], []⟩) (CR C8.CX0 [] P w H s (fun v _ => v = .bl true) C8.E0) s
/-- a def's body under a given surrounding -/
theorem fn_at {CX : CXT} {P : Program} {w : World} {K : PySem.W.Frag} {mg : Str → Option Value} {base : Heap} {k : Nat} {f : Addr} {name qual : Str} {params : Arguments} {body : List Stmt} {scope : Scope} {dV kV doc pm cdv ct oc : Value} {an od : Option Addr} {osl : Array (Option Value)} {N ps : List Str}
    (lk : K.lookup f = some ⟨oc, od, .func (PySem.W.fnOf name qual params body scope dV kV doc pm an cdv ct), osl⟩) (hcd : PySem.W.codeIn K cdv qual = true) (S : FnScope N ps scope) {A : Around} {outer : List Env} {s : Shared} {H : Hp} {args : PySem.Args} {us : List Value} {vs : List V} {Q : VK} {E : XK}
    (hr : Room (k + 1) A) (e0 : Env0 P w K mg base A outer s H) (hb : BindsTo s (PySem.W.fnOf name qual params body scope dV kV doc pm an cdv ct) args (ps.zip us)) (r : Vals vs us) (hl : vs.length = ps.length)
    (hbody : Room k (A.deeper (envOfC qual scope s.heap.objs.size f cdv)) → ∃ t, PSs (cxOf CX P w K mg base N qual scope f cdv A outer s H E) body t ∧ t { nx := fun _ H' => Q .non H', rt := Q } (start N vs) H) :
    codeAny (model P w) A (.call (.ref f) args) (CR CX outer P w H s Q E) s := by
  have KX : K.In s.heap := e0.mod.kin.keeps fun b o e => (e0.bs b o e).1
  have lim : s.heap.NoLimit := e0.mod.nolimit.keeps fun b o e => (e0.bs b o e).1
  have kinds : ∀ y ∈ ps.zip us, scope.names.lookup y.1 = some .local ∨ (scope.names.lookup y.1 = some .cell ∧ ((cellsFrom (s.heap.objs.size + 1) scope.names []).lookup y.1).isSome = true) := by
    rintro ⟨n, v⟩ hy
    exact (S.par n (List.of_mem_zip hy).1).imp id fun q => ⟨q, PySem.W.cellsFrom_some _ _ _ (.inl q)⟩
  refine codeAny_call_function hr.depth (KX _ _ lk) rfl S.co S.gen rfl (PySem.W.codeRec_of KX hcd) (hb _ _ _ _ ?_)
  refine wpAny_newFunctionEnv_cells S.kind kinds fun env he s1 x => ?_
  subst he
  refine ⟨lim.keeps x.toInCall.keep, codeAny_func ?_⟩
  obtain ⟨t, ht, hq⟩ := hbody (hr.deeper _)
  have I := inv_start (CX := CX) (E := E) S hr.hd e0 hl r x
  refine wpAny_mono (ht.run [] s1 (start N vs) H _ I hq) (fun fl s' hs => ?_) fun e s' hs => hs
  cases fl with
  | ret u => obtain ⟨v, σ', H', J, rv, q⟩ := hs; exact ⟨v, H', J.os, J.bare, J.base, J.hok, rv, q⟩
  | next => obtain ⟨σ', H', J, q⟩ := hs; exact ⟨.non, H', J.os, J.bare, J.base, J.hok, rfl, q⟩
  | brk => exact hs.choose_spec.choose_spec.2.elim
  | cont => exact hs.choose_spec.choose_spec.2.elim
/-- the head: from the law's call to what the row asks -/
theorem call_at {P : Program} {w : World} {K : PySem.W.Frag} {mg mb : Str → Option Value} {n : Nat} {fa a : Addr} {fd : FuncData} {x : Str} {s₁ : Shared} {vs : List Value} {ns : List Int}
    (KX : K.In s₁.heap) (hns : s₁.heap.Ns mainGlobals mg) (hb : s₁.heap.Ns builtinsNs mb) (hbb : ∀ x : Str, x ≠ "__name__" → mb x = bootBuiltins x) (hlim : s₁.heap.NoLimit) (hg : s₁.gens = #[])
    (ha : s₁.heap.get? a = some { cls := .type "list", data := .seq vs.toArray }) (hi : IntsAre vs ns) (hl : ns.length ≤ n) (hn : n ≤ sizeLine) (hbits : ∀ z ∈ ns, Builtin.Int.intBits z ≤ 1048576)
    (F : ∀ base : Heap, K.In base → base.Ns mainGlobals mg → LawAt P w K mg base fa fd x n) (hbind : ∀ (s : Shared) (u : Value), BindsTo s fd ⟨[u], []⟩ [(x, u)]) :
    codeAny (model P w) callerA (.call (.ref fa) ⟨[.ref a], []⟩) (fun r s' => r = .ok (.ret (.bool true)) ∧ OldK s₁.heap s'.heap ∧ s'.os = s₁.os ∧ AllBare s'.gens) s₁ := by
  have rv := vals_ints hi
  have lenV := hi.length
  -- whatever abstract heap, with nothing tracked but the script
  have core : ∀ H : Hp, Only H → SqL K H a (ns.map V.int) → HOk P w H s₁.heap → (∀ b, H b ≠ none → b = a) → (H a ≠ none → K.lookup a = none) →
      codeAny (model P w) callerA (.call (.ref fa) ⟨[.ref a], []⟩) (fun r s' => r = .ok (.ret (.bool true)) ∧ OldK s₁.heap s'.heap ∧ s'.os = s₁.os ∧ AllBare s'.gens) s₁ := by
    intro H hO hS hok hA hK
    have other : ∀ {b : Addr} {o : Obj}, s₁.heap.get? b = some o → (b = a → False) → (hidT s₁.heap H).get? b = some o := fun {b o} e n => hidT_get e (Classical.byContradiction fun z => n (hA b z))
    have nsK : ∀ {b : Addr} {m : Str → Option Value}, s₁.heap.Ns b m → (hidT s₁.heap H).Ns b m := fun {b m} ⟨o, es, ep, e, d, r⟩ => ⟨o, es, ep, other e (fun z => by
      subst z
      rw [ha] at e
      cases e
      cases (show Data.seq vs.toArray _ = Data.dict es ep from d)), d, r⟩
    have hKb : K.In (hidT s₁.heap H) := fun b o e => hidT_get (KX b o e) (Classical.byContradiction fun z => by
      have e' := hA b z
      subst e'
      rw [hK z] at e
      cases e)
    have hM : Mod K mg (hidT s₁.heap H) := ⟨hKb, nsK hns, ⟨mb, nsK hb, hbb⟩, let ⟨mc, h1, h2⟩ := hlim; ⟨mc, nsK h1, h2⟩⟩
    have e0 : Env0 P w K mg (hidT s₁.heap H) callerA [] s₁ H := ⟨rfl, hM, fun b o e => of_hidT e, Nat.le_of_eq (hidT_size _ _), trivial, fun b hb => (by cases hb), hok, .of_eq hg⟩
    refine codeAny_mono (F _ hKb (nsK hns) s₁ H a ns e0 hl hbits hO hS (hbind s₁ (.ref a))) fun r s' h => ?_
    cases r with
    | error e => exact False.elim h
    | ok fl =>
      cases fl with
      | next => exact False.elim h
      | brk => exact False.elim h
      | cont => exact False.elim h
      | ret u =>
        obtain ⟨v, H', os, bare, un, hok', r', rfl⟩ := h
        obtain rfl : u = Value.bool true := r'
        refine ⟨rfl, OldK.of_keep fun b o e => ?_, os, bare⟩
        cases q : H b with
        | none => exact un.keep b o e q (fun z => by cases z) (fun z => by cases z)
        | some u =>
          rcases hO b with z | ⟨ob, xs, z⟩
          · rw [q] at z; cases z
          · obtain ⟨e1, _⟩ := hok b _ z
            obtain ⟨e2, _⟩ := hok' b _ (un.frzs b ob _ z)
            rw [e] at e1
            cases e1
            exact e2
  have hls : ns.length ≤ sizeLine := Nat.le_trans hl hn
  cases hk : K.lookup a with
  | some o =>
    have e := KX a o hk
    rw [ha] at e
    cases e
    exact core (fun _ => none) (fun _ => .inl rfl) (.inr ⟨_, vs.toArray, _, hk, rfl, rfl, rfl, by rw [List.size_toArray, lenV]; exact hls, by simpa using rv⟩) (fun b u z => nomatch (show (none : Option HO) = some u from z)) (fun b z => absurd rfl z) fun z => absurd rfl z
  | none =>
    let o : HO := .frz { cls := .type "list", data := .seq vs.toArray } (.lst (ns.map V.int))
    refine core (fun b => if b = a then some o else none) (fun b => ?_) (.inl (.inr ⟨_, if_pos rfl⟩)) (fun b u z => ?_) (fun b z => Classical.byContradiction fun hb => z (if_neg hb)) fun _ => hk
    · by_cases hb : b = a
      · exact .inr ⟨_, _, if_pos hb⟩
      · exact .inl (if_neg hb)
    · by_cases hb : b = a
      · have z' := (if_pos hb).symm.trans z
        cases z'
        subst hb
        exact ⟨ha, by rw [List.length_map]; exact hls, vs, _, rv, ha⟩
      · exact nomatch (if_neg hb).symm.trans z
/-- the goal that the row's head leaves -/
theorem walk_at {l : PySem.W.OpenLaw} {n : Nat} {q : Program} {loose : List Str} {XP : (Str → Option Value) → Heap → Prop} {YP : World → Heap → Prop} {d : DefRec} {K : Params → PySem.W.Frag} {x : Str}
    (hn : l.most = some n) (hn2 : n ≤ sizeLine) (hdf : d.params.defaults = []) (hY : ∀ (w : World) (h : Heap), YP w h → (K w.params).In h)
    (F : ∀ (w : World) (mg : Str → Option Value) (fa : Addr) (h : Heap), (K w.params).In h → h.Ns mainGlobals mg → mg d.name = some (.ref fa) →
      ∃ fd : FuncData, (∀ (s : Shared) (u : Value), BindsTo s fd ⟨[u], []⟩ [(x, u)]) ∧ ∀ base : Heap, (K w.params).In base → base.Ns mainGlobals mg → LawAt l.prog w (K w.params) mg base fa fd x n) :
    PySem.W.WalkO q loose XP YP l.row.toRowW d [] (fun f vs => PySem.call f vs) := by
  refine Att.attach_callB hn hdf fun w s₀ s₁ mg mb fa o pm cd doc a vs ns G Y ho hd hcd hmg hobj hints hlen hbits hg => ?_
  have KX := hY w _ Y
  obtain ⟨fd, hb, hF⟩ := F w mg fa _ KX G.T.g hmg
  exact call_at KX G.T.g G.T.b G.T.builtins G.T.nolimit hg hobj hints hlen hn2 hbits hF hb
end Vm


set_option Elab.async false
set_option linter.all false
set_option maxRecDepth 100000
set_option maxHeartbeats 4000000
/-! Vm, part 24: the law's source is made. -/
namespace Vm
open PySem PySem.Spec PyProof.Rows L2

def mixF (m z : Int) : Int := (m * 48611 + z * 79 + 43) % 2147483629
def absI (z : Int) : Int := if z < 0 then -z else z
def srcOf (ns : List Int) : Src := ⟨(ns.map absI).reverse, 1, ns.foldl mixF 83, 0⟩
/-- the text of _law_source -/
def srcC (c : Ctx) (body : List Stmt) : Bool :=
  match body with
  | [.Assign [.Name m1 _] (.Constant (.int k0) _ _) _,
     .For (.Name c1 _) (.Name s1 _) [.Assign [.Name m2 _] (.BinOp (.Call (.Name i1 _) [.BinOp (.BinOp (.BinOp (.Name m3 _) .Mult (.Constant (.int k1) _ _) _) .Add (.BinOp (.Name c2 _) .Mult (.Constant (.int k2) _ _) _) _) .Add (.Constant (.int k3) _ _) _] [] _) .Mod (.Constant (.int k4) _ _) _) _] [] _,
     .Return (some (.Dict [some (.Constant (.str d1) _ _), some (.Constant (.str d2) _ _), some (.Constant (.str d3) _ _), some (.Constant (.str d4) _ _)]
       [.Subscript (.ListComp (.Call (.Name a1 _) [.Name c3 _] [] _) [⟨.Name c4 _, .Name s2 _, [], 0⟩] scope _) (.Slice none none (some (.UnaryOp .USub (.Constant (.int 1) _ _) _)) _) _, .Constant (.int k5) _ _, .Name m4 _, .Constant (.int k6) _ _] _)) _] =>
    decide (k0 = 83 ∧ k1 = 48611 ∧ k2 = 79 ∧ k3 = 43 ∧ k4 = 2147483629 ∧ k5 = 1 ∧ k6 = 0) && decide (d1 = Str.ofString "cells" ∧ d2 = Str.ofString "left" ∧ d3 = Str.ofString "mixed" ∧ d4 = Str.ofString "turn") &&
      decide (i1 = Str.ofString "int" ∧ a1 = Str.ofString "abs") && locOk c 1 m1 && locOk c 2 c1 && locOk c 1 m2 && nmOk c 0 s1 && nmOk c 1 m3 && nmOk c 2 c2 && nmOk c 0 s2 && nmOk c 1 m4 && glOk c i1 &&
      blkC c.N c.sc scope [(c4, 2)] && decide (scope.kind = .function) && locOk { c with sc := relS scope c.sc, fn := fun x => scope.names.lookup x == some .cell } 2 c4 && nmOk { c with sc := relS scope c.sc, fn := fun x => scope.names.lookup x == some .cell } 2 c3 &&
      glOk { c with sc := relS scope c.sc, fn := fun x => scope.names.lookup x == some .cell } a1
  | _ => false
def spSrc (K : PySem.W.Frag) : Sp := fun vs H Q _ => ∃ a ns, vs = [.ref a] ∧ SqL K H a (ns.map V.int) ∧ ns.length ≤ 63 ∧ (∀ z ∈ ns, Builtin.Int.intBits z ≤ 1048576) ∧
  ∀ sa ca H', Same H H' → H sa = none → H ca = none → SrcAt H' sa ca (srcOf ns) → Q (.ref sa) H'
theorem sqL_same {K : PySem.W.Frag} {H H' : Hp} {a : Addr} {xs : List V} (h : SqL K H a xs) (e : Same H H') : SqL K H' a xs := by
  rcases h with (h | ⟨o, h⟩) | h
  · exact .inl (.inl (e _ _ h))
  · exact .inl (.inr ⟨o, e _ _ h⟩)
  · exact .inr h
theorem upd_sameH {H : Hp} {p : Addr} {u : HO} (h : H p = none) : Same H (upd H p u) := fun b o e => by rw [upd_ne (ne_of_none e h)]; exact e
theorem mix_rng : ∀ (ns : List Int) (m : Int), 0 ≤ m ∧ m < 2147483648 → 0 ≤ ns.foldl mixF m ∧ ns.foldl mixF m < 2147483648
  | [], m, h => h
  | z :: ns, m, h => mix_rng ns _ (by
    unfold mixF
    have a := Int.emod_nonneg (m * 48611 + z * 79 + 43) (show (2147483629 : Int) ≠ 0 by decide)
    have b := Int.emod_lt_of_pos (m * 48611 + z * 79 + 43) (show (0 : Int) < 2147483629 by decide)
    omega)
theorem take_snoc {α : Type} {l : List α} {i : Nat} {x : α} (h : l[i]? = some x) : l.take (i + 1) = l.take i ++ [x] := by
  rw [List.take_add_one, h]
  rfl
theorem merge_src {ca : Addr} {s : Src} : mergeK [] (srcL ca s) = srcL ca s := by
  simp [mergeK, srcL, L2.putK, k12, k13, k14, k23, k24, k34, k12.symm, k13.symm, k14.symm, k23.symm, k24.symm, k34.symm]
theorem src_body {Φ : Fs} {X : Cx} {c : Ctx} {j : Nat} {body : List Stmt} (ok : CtxOk Φ X c j) (h : srcC c body = true) :
    ∃ t, PSs X body t ∧ ∀ (D : Ends) (H : Hp) (σ : L2.St) (a : Addr) (ns : List Int), σ.length = 3 → σ[0]? = some (some (.ref a)) → SqL X.K H a (ns.map V.int) → ns.length ≤ 63 → (∀ z ∈ ns, Builtin.Int.intBits z ≤ 1048576) →
      (∀ sa ca H', Same H H' → H sa = none → H ca = none → SrcAt H' sa ca (srcOf ns) → D.rt (.ref sa) H') → t D σ H := by
  unfold srcC at h
  split at h
  case h_2 => cases h
  simp only [Bool.and_eq_true, decide_eq_true_eq] at h
  obtain ⟨⟨⟨⟨⟨⟨⟨⟨⟨⟨⟨⟨⟨⟨⟨⟨⟨rfl, rfl, rfl, rfl, rfl, rfl, rfl⟩, rfl, rfl, rfl, rfl⟩, rfl, rfl⟩, w1⟩, w2⟩, w3⟩, w4⟩, w5⟩, w6⟩, w7⟩, w8⟩, w9⟩, v1⟩, v2⟩, v3⟩, v4⟩, v5⟩ := h
  obtain ⟨a1, a2, a3⟩ := loc_of ok w1
  obtain ⟨b1, b2, b3⟩ := loc_of ok w2
  obtain ⟨c1, c2, c3⟩ := loc_of ok w3
  obtain ⟨d1, d2, d3, d4⟩ := nm_of ok w4
  obtain ⟨e1, e2, e3, e4⟩ := nm_of ok w5
  obtain ⟨f1, f2, f3, f4⟩ := nm_of ok w6
  obtain ⟨g1, g2, g3, g4⟩ := nm_of ok w7
  obtain ⟨h1, h2, h3, h4⟩ := nm_of ok w8
  obtain ⟨i1, i2, i3⟩ := gl_of ok w9
  have hok := nd_of ok
  rename_i c4 _ _ _ scope _ _ _ _ _ _ _ _ _ _ _ _ _ _
  have blk : BlkOk X.N X.env.scope scope [(c4, 2)] := by rw [ok.N, ok.sc]; exact blkOk_by v1
  refine ⟨_, pss_cons (ps_set hok a1 a2 pe_int rfl a3) (pss_cons (ps_for (by rw [ok.xe]; exact PassesOwn.never) ok.calm (pi_list (pe_var d1 d2 d3 d4)) (pg_name hok b1 b2 b3)
    (pss_one (ps_set hok c1 c2 (pe_op op_mod (pe_callTy call_int1 i1 (ok.blt _ (by decide)) boot_int (pa_cons (pe_op op_add (pe_op op_add (pe_op op_mulX (pe_var e1 e2 e3 e4) pe_int) (pe_op op_mulX (pe_var f1 f2 f3 f4) pe_int)) pe_int) pa_nil rfl) i3 i2 rfl rfl) pe_int) rfl c3)) (fun _ => rfl))
    (pss_one (ps_ret (pe_disp (pps_cons pe_str (pe_revL (pe_lc (own := [(c4, 2)]) ok.calm hok (pi_list (pe_var g1 g2 g3 g4)) blk
      (fun s H C cl fp => let o := blk_of ok v2 s H C cl fp; let q := loc_of o v3; pg_name hok q.1 q.2.1 q.2.2) (fun s H C cl fp => pts_nil)
      (fun s H C cl fp => let o := blk_of ok v2 s H C cl fp; let q := nm_of o v4; let r := gl_of o v5; pe_callB call_abs r.1 (o.blt _ (by decide)) (by decide +kernel) (pa_cons (pe_var q.1 q.2.1 q.2.2.1 q.2.2.2) pa_nil rfl) r.2.2 r.2.1 rfl rfl) (fun _ => rfl)))
      (pps_cons pe_str pe_int (pps_cons pe_str (pe_var h1 h2 h3 h4) (pps_cons pe_str pe_int pps_nil)))) rfl rfl (by simp) (by simp))))), ?_⟩
  intro D H σ a ns hl h0 hq hn hb k
  have s1 : (σ.set 1 (some (V.int 83)))[0]? = some (some (V.ref a)) := by rw [List.getElem?_set_ne (by decide)]; exact h0
  refine ⟨_, s1, a, rfl, ⟨_, hq⟩, for_list (K := X.K) (a := a) (xs := ns.map V.int) (fun i σ' H' => H' = H ∧ σ'.length = 3 ∧ σ'[0]? = some (some (V.ref a)) ∧ σ'[1]? = some (some (V.int ((ns.take i).foldl mixF 83)))) ?_ ?_ ?_ ?_⟩
  · exact ⟨rfl, by rw [List.length_set]; exact hl, s1, by rw [List.getElem?_set_self (by rw [hl]; decide)]; rfl⟩
  · rintro i σ' H' _ ⟨rfl, _⟩
    exact hq
  · rintro i x σ' H' hx ⟨rfl, l3, p0, p1⟩
    rw [List.getElem?_map] at hx
    cases hz : ns[i]? with
    | none => rw [hz] at hx; cases hx
    | some z =>
      rw [hz] at hx
      cases hx
      have mr := mix_rng (ns.take i) 83 (by decide)
      have zb := hb z (List.mem_of_getElem? hz)
      have q0 : (σ'.set 2 (some (V.int z)))[0]? = some (some (V.ref a)) := by rw [List.getElem?_set_ne (by decide)]; exact p0
      have q1 : (σ'.set 2 (some (V.int z)))[1]? = some (some (V.int ((ns.take i).foldl mixF 83))) := by rw [List.getElem?_set_ne (by decide)]; exact p1
      have q2 : (σ'.set 2 (some (V.int z)))[2]? = some (some (V.int z)) := by rw [List.getElem?_set_self (by rw [l3]; decide)]
      have m1 : CMulX ((ns.take i).foldl mixF 83) 48611 := mulx_ok (a := 31) (b := 16) (by omega) (by decide) (by decide)
      have m2 : CMulX z 79 := by
        unfold CMulX
        have : Builtin.Int.intBits 79 ≤ 7 := by decide
        omega
      refine ⟨_, q1, _, _, rfl, rfl, m1, _, q2, _, _, rfl, rfl, m2, _, _, rfl, rfl, _, _, rfl, rfl, .inl ⟨_, rfl, _, _, rfl, rfl, (show (0 : Int) < 2147483629 by decide), rfl, ?_, ?_, ?_⟩⟩
      · rw [List.length_set, List.length_set]; exact l3
      · rw [List.getElem?_set_ne (by decide)]; exact q0
      · rw [List.getElem?_set_self (by rw [List.length_set, l3]; decide), take_snoc hz, List.foldl_append]
        rfl
  · rintro σ' H' ⟨rfl, l3, p0, p1⟩
    rw [List.length_map, List.take_length] at p1
    intro p hp
    generalize hH0 : upd H' p (.dK []) = H0
    have s0 : Same H' H0 := by rw [← hH0]; exact upd_sameH hp
    have hp0 : H0 p = some (.dK []) := by rw [← hH0]; exact upd_same
    have hq1 : SqL X.K H0 a (ns.map V.int) := sqL_same hq s0
    refine ⟨_, p0, a, rfl, ⟨_, hq1⟩, fun Dl hD => lc_list (K := X.K) (a := a) (xs := ns.map V.int) (fun i H2 => H2 Dl = some (.lst (((ns.take i).map absI).map V.int)) ∧ ∀ b, b ≠ Dl → H2 b = H0 b) ?_ ?_ ?_ ?_⟩
    · exact ⟨upd_same, fun b hb => upd_ne hb⟩
    · rintro i H2 _ ⟨_, e2⟩
      exact sqL_same hq1 fun b o e => by rw [e2 b (ne_of_none e hD)]; exact e
    · rintro i x H2 hx ⟨e1, e2⟩
      rw [List.getElem?_map] at hx
      cases hz : ns[i]? with
      | none => rw [hz] at hx; cases hx
      | some z =>
        rw [hz] at hx
        cases hx
        have hi : i < ns.length := (List.getElem?_eq_some_iff.mp hz).1
        refine ⟨by simp [wipe], ?_⟩
        dsimp only [tYes]
        rw [if_pos rfl]
        refine ⟨V.int z, ?_, z, rfl, _, e1, ?_, ?_, fun b hb => ?_⟩
        · show ((wipe σ' [2]).set 2 (some (V.int z)))[2]? = _
          rw [List.getElem?_set_self (by rw [wipe_length, l3]; decide)]
        · rw [List.length_map, List.length_map, List.length_take, sizeLine_eq]
          omega
        · rw [upd_same, take_snoc hz, List.map_append, List.map_append]
          rfl
        · rw [upd_ne hb]
          exact e2 b hb
    · rintro H2 ⟨e1, e2⟩
      rw [List.length_map, List.take_length] at e1
      refine ⟨Dl, _, rfl, .of e1, fun q hq2 => ?_⟩
      have npD : p ≠ Dl := ne_of_none hp0 hD
      have hp2 : H2 p = some (.dK []) := by rw [e2 p npD]; exact hp0
      have npq : p ≠ q := ne_of_none hp2 hq2
      refine ⟨_, p1, ?_, srcL q (srcOf ns), rfl, (show 4 ≤ 15 by decide), ?_⟩
      · rw [upd_ne npq]
        exact hp2
      · rw [merge_src]
        have s2 : Same H' H2 := fun b o e => by rw [e2 b (ne_of_none (s0 _ _ e) hD)]; exact s0 _ _ e
        refine k p q _ (fun b o e => ?_) hp (s2.free hq2) ⟨upd_same, ?_⟩
        · rw [upd_ne (ne_of_none e hp), upd_ne (ne_of_none (s2 _ _ e) hq2)]
          exact s2 _ _ e
        · rw [upd_ne npq.symm, upd_same]
          show some (HO.lst _) = some (HO.lst ((ns.map absI).reverse.map V.int))
          rw [List.map_reverse]
/-- _law_source keeps its promise -/
theorem fn_src {P : Program} {w : World} {K : PySem.W.Frag} {mg : Str → Option Value} {base : Heap} {Φ : Fs} {j : Nat} {x : Str} {st : Stmt} {f : Addr} {fd : FuncData} {N ps : List Str} (B : Base P w K mg base Φ j) (D : C8.Def K mg x st f fd) (b : Binds K fd ps []) (S : FnScope N ps (C8.fnScope st))
    (hl : ps.length = 1) (hN : N.length = 3) (hc : srcC ⟨N, C8.fnScope st, fun _ => true, false⟩ (C8.fnBody st) = true) : C8.Cal P w K mg base (j + 1) x (spSrc K) [] :=
  C8.cal0 D b .nil S (fun vs H Q E h => by obtain ⟨a, ns, rfl, _⟩ := h; rw [hl]; rfl) fun cdv A outer s H vs Q E hr hsp => by
    obtain ⟨a, ns, rfl, hq, hn, hb, k⟩ := hsp
    obtain ⟨t, ht, hk⟩ := src_body (ctx_of B S (rp := false) (fun z => nomatch z) hr) hc
    refine ⟨t, ht, hk _ H _ a ns ?_ rfl hq hn hb k⟩
    show ([some (V.ref a)] ++ List.replicate (N.length - 1) none).length = 3
    rw [hN]
    rfl
end Vm


set_option Elab.async false
set_option linter.all false
set_option maxRecDepth 100000
set_option maxHeartbeats 4000000
/-! Vm, part 25: the chain of the defs; the law's promise from the evaluator's answer. -/
namespace Vm
open PySem PySem.Spec PyProof.Rows L2

/-- a def of the module as it stands behind the top -/
structure DefAt (K : PySem.W.Frag) (x : Str) (st : Stmt) : Prop where
  ex : ∃ (f : Addr) (oc : Value) (od : Option Addr) (kV doc pm : Value) (an : Option Addr) (cdv ct : Value) (osl : Array (Option Value)), PySem.W.nsIn K mainGlobals x = some (some (.ref f)) ∧
    K.lookup f = some ⟨oc, od, .func (PySem.W.fnOf x x (C8.fnArgs st) (C8.fnBody st) (C8.fnScope st) .none kV doc pm an cdv ct), osl⟩ ∧ PySem.W.codeIn K cdv x = true ∧ PySem.W.keepIn K (.ref f) = true
theorem defAt_mk {K : PySem.W.Frag} {x : Str} {st : Stmt} {f : Addr} {oc : Value} {od : Option Addr} {kV doc pm : Value} {an : Option Addr} {cdv ct : Value} {osl : Array (Option Value)} (a : PySem.W.nsIn K mainGlobals x = some (some (.ref f)))
    (l : K.lookup f = some ⟨oc, od, .func (PySem.W.fnOf x x (C8.fnArgs st) (C8.fnBody st) (C8.fnScope st) .none kV doc pm an cdv ct), osl⟩) (c : PySem.W.codeIn K cdv x = true) (k : PySem.W.keepIn K (.ref f) = true) : DefAt K x st := ⟨f, oc, od, kV, doc, pm, an, cdv, ct, osl, a, l, c, k⟩
/-- every parameter is given -/
def BindOk (x : Str) (st : Stmt) (ps : List Str) : Prop := ∀ (kV doc pm : Value) (an : Option Addr) (cdv ct : Value) (us : List Value), us.length = ps.length → bindArgs (PySem.W.fnOf x x (C8.fnArgs st) (C8.fnBody st) (C8.fnScope st) .none kV doc pm an cdv ct) ⟨us, []⟩ = pure (ps.zip us)
theorem DefAt.use {K : PySem.W.Frag} {x : Str} {st : Stmt} {ps : List Str} {h : Heap} {mg : Str → Option Value} (d : DefAt K x st) (KX : K.In h) (G : h.Ns mainGlobals mg) (hb : BindOk x st ps) : ∃ f fd, C8.Def K mg x st f fd ∧ Binds K fd ps [] := by
  obtain ⟨f, oc, od, kV, doc, pm, an, cdv, ct, osl, a, l, c, k⟩ := d.ex
  have F : C8.Fun K x x st f (PySem.W.fnOf x x (C8.fnArgs st) (C8.fnBody st) (C8.fnScope st) .none kV doc pm an cdv ct) := ⟨oc, od, .none, kV, doc, pm, an, cdv, ct, osl, rfl, l, c⟩
  exact ⟨f, _, ⟨F, PySem.W.mg_of KX G a, k⟩, F.binds rfl hb⟩
section
variable {P : Program} {w : World} {K : PySem.W.Frag} {mg : Str → Option Value} {base h : Heap} {Φ : Fs} {j : Nat} {x : Str} {st : Stmt} {N ps : List Str} {a : Ss}
theorem Base.stepP (B : Base P w K mg base Φ j) (d : DefAt K x st) (KX : K.In h) (G : h.Ns mainGlobals mg) (hb : BindOk x st ps) (hs : C8.scC N ps (C8.fnScope st) = true) (hc : chkSs ⟨N, C8.fnScope st, fun _ => true, false⟩ a (C8.fnBody st) = true) :
    Base P w K mg base (Φ.addP x ps.length (runP Φ N.length a)) (j + 1) := by
  obtain ⟨f, fd, D, b⟩ := d.use KX G hb
  exact B.addP (Nat.le_succ _) (fn_P B D b (C8.fnScope_by hs) hc)
theorem Base.stepS (B : Base P w K mg base Φ j) (d : DefAt K x st) (KX : K.In h) (G : h.Ns mainGlobals mg) (hb : BindOk x st ps) (hs : C8.scC N ps (C8.fnScope st) = true) (hc : chkSs ⟨N, C8.fnScope st, fun _ => true, false⟩ a (C8.fnBody st) = true) :
    Base P w K mg base (Φ.addS x ps.length (runS Φ N.length a)) (j + 1) := by
  obtain ⟨f, fd, D, b⟩ := d.use KX G hb
  exact B.addS (Nat.le_succ _) (fn_S B D b (C8.fnScope_by hs) hc)
/-- a def that calls itself, to a depth -/
def recS (Φ : Fs) (x : Str) (n m : Nat) (a : Ss) : Nat → SFn
  | 0 => fun _ _ => none
  | d + 1 => runS (Φ.addS x n (recS Φ x n m a d)) m a
theorem Base.stepR (B : Base P w K mg base Φ j) (d : DefAt K x st) (KX : K.In h) (G : h.Ns mainGlobals mg) (hb : BindOk x st ps) (hs : C8.scC N ps (C8.fnScope st) = true) (hc : chkSs ⟨N, C8.fnScope st, fun _ => true, false⟩ a (C8.fnBody st) = true) :
    ∀ m : Nat, Base P w K mg base (Φ.addS x ps.length (recS Φ x ps.length N.length a m)) (j + m)
  | 0 => by
    obtain ⟨f, fd, D, b⟩ := d.use KX G hb
    exact B.addS (Nat.le_refl _) (fn_S0 D b)
  | m + 1 => by
    obtain ⟨f, fd, D, b⟩ := d.use KX G hb
    exact B.addS (by omega) (fn_S (Base.stepR B d KX G hb hs hc m) D b (C8.fnScope_by hs) hc)
theorem cal_src (B : Base P w K mg base Φ j) (d : DefAt K x st) (KX : K.In h) (G : h.Ns mainGlobals mg) (hb : BindOk x st ps) (hs : C8.scC N ps (C8.fnScope st) = true) (hl : ps.length = 1) (hN : N.length = 3) (hc : srcC ⟨N, C8.fnScope st, fun _ => true, false⟩ (C8.fnBody st) = true) :
    C8.Cal P w K mg base (j + 1) x (spSrc K) [] := by
  obtain ⟨f, fd, D, b⟩ := d.use KX G hb
  exact fn_src B D b (C8.fnScope_by hs) hl hN hc

/-! ### the law -/
/-- the law's text: its first statement, then what the evaluator knows -/
def lawC (c : Ctx) (a : Ss) (body : List Stmt) : Bool :=
  match body with
  | .Assign [.Name s1 _] (.Call (.Name f _) [.Name s2 _] [] _) _ :: rest => locOk c 1 s1 && decide (f = Str.ofString "_law_source") && glOk c f && nmOk c 0 s2 && chkSs c a rest
  | _ => false
def lawSt (n : Nat) (ns : List Int) : St := ⟨none :: some .src :: List.replicate (n - 2) none, some (srcOf ns)⟩
/-- the evaluator says True at every script -/
def SaysTrue (Φ : Fs) (n : Nat) (a : Ss) : Prop := ∀ ns : List Int, ns.length ≤ 63 → (∀ z ∈ ns, Builtin.Int.intBits z ≤ 1048576) → ∃ s', evSs Φ a (lawSt n ns) = some (.ret (.d (.bool true)) s')
theorem law_ps {X : Cx} {c : Ctx} {body : List Stmt} {ks : Nat} (ok : CtxOk Φ X c j) (h : lawC c a body = true) (hs : C8.Cal X.prog X.w X.K X.mg X.base ks (Str.ofString "_law_source") (spSrc X.K) []) (hk : ks ≤ j) (hT : SaysTrue Φ c.N.length a) (hn : 2 ≤ c.N.length) :
    ∃ t, PSs X body t ∧ ∀ (D : Ends) (H : Hp) (σ : L2.St) (p : Addr) (ns : List Int), σ.length = c.N.length → σ[0]? = some (some (.ref p)) → SqL X.K H p (ns.map V.int) → ns.length ≤ 63 → (∀ z ∈ ns, Builtin.Int.intBits z ≤ 1048576) → (∀ H', D.rt (.bl true) H') → t D σ H := by
  unfold lawC at h
  split at h
  case h_2 => cases h
  simp only [Bool.and_eq_true, decide_eq_true_eq] at h
  obtain ⟨⟨⟨⟨w1, rfl⟩, w3⟩, w4⟩, w5⟩ := h
  obtain ⟨a1, a2, a3⟩ := loc_of ok w1
  obtain ⟨i1, i2, i3⟩ := gl_of ok w3
  obtain ⟨d1, d2, d3, d4⟩ := nm_of ok w4
  refine ⟨_, pss_cons (ps_set (nd_of ok) a1 a2 (C8.pe_c hs ok.room hk i1 (pa_cons (pe_var d1 d2 d3 d4) pa_nil rfl) i2 rfl rfl) rfl a3) (sndSs a ok w5), ?_⟩
  intro D H σ p ns hl h0 hq hns hb k
  obtain ⟨s', he⟩ := hT ns hns hb
  refine ⟨_, h0, p, ns, rfl, hq, hns, hb, fun sa ca H' sm hsa hca sat => ⟨fun _ => none, [sa, ca], lawSt c.N.length ns, fun _ => [], _, ?_, he, fun v F' H2 B q => ?_⟩⟩
  · have lS : (lawSt c.N.length ns).ρ.length = c.N.length := by
      show (none :: some O.src :: List.replicate (c.N.length - 2) none).length = _
      simp only [List.length_cons, List.length_replicate]
      omega
    have at1 : ∀ {i : Nat} {o : O}, (lawSt c.N.length ns).ρ[i]? = some (some o) → i = 1 ∧ o = .src := fun {i o} e => by
      have e : (none :: some O.src :: List.replicate (c.N.length - 2) none)[i]? = some (some o) := e
      match i, e with
      | 0, e => cases e
      | 1, e => cases e; exact ⟨rfl, rfl⟩
      | i + 2, e =>
        rw [List.getElem?_cons_succ, List.getElem?_cons_succ, List.getElem?_replicate] at e
        split at e <;> cases e
    exact { same := fun b o e => nomatch e
            slots := fun i o e => by
              obtain ⟨rfl, rfl⟩ := at1 e
              exact ⟨.ref sa, by rw [List.getElem?_set_self (by omega)], rfl, sa, ca, rfl, rfl⟩
            nobor := fun i q e => by obtain ⟨_, z⟩ := at1 e; cases z
            nod := fun _ => List.nodup_nil
            dis := fun _ _ _ z => nomatch z
            out := fun _ _ z => nomatch z
            emp := fun _ _ => rfl
            src := ⟨sa, ca, rfl, rfl, rfl, sat⟩
            len := by rw [lS, List.length_set, hl]; exact Nat.le_refl _ }
  · obtain ⟨_, d⟩ := (show _ ∧ Den X.K F' v (.bool true) from q.own)
    cases d
    exact k H2
theorem law_at (d : DefAt K x st) (KX : K.In h) (G : h.Ns mainGlobals mg) {y : Str} (hb : BindOk x st [y]) (hs : C8.scC N [y] (C8.fnScope st) = true)
    (hc : lawC ⟨N, C8.fnScope st, fun _ => true, true⟩ a (C8.fnBody st) = true) (hT : SaysTrue Φ N.length a) (hn : 2 ≤ N.length) (hr : Room (j + 1) callerA) {fa : Addr} (hfa : mg x = some (.ref fa)) :
    ∃ fd : FuncData, (∀ (s : Shared) (u : Value), BindsTo s fd ⟨[u], []⟩ [(y, u)]) ∧ ∀ base : Heap, Base P w K mg base Φ j → (∃ ks, ks ≤ j ∧ C8.Cal P w K mg base ks (Str.ofString "_law_source") (spSrc K) []) → LawAt P w K mg base fa fd y 63 := by
  obtain ⟨f, oc, od, kV, doc, pm, an, cdv, ct, osl, a1, l, c, k⟩ := d.ex
  have ef : Value.ref f = Value.ref fa := Option.some.inj ((PySem.W.mg_of KX G a1).symm.trans hfa)
  cases ef
  refine ⟨_, fun s u => .of_eq (hb kV doc pm an cdv ct [u] rfl), fun base B hcs s H p ns e0 hns hbits hO hq hbd => ?_⟩
  obtain ⟨ks, hk, hcs⟩ := hcs
  have S := C8.fnScope_by hs
  refine fn_at (k := j) (N := N) (ps := [y]) (us := [.ref p]) (vs := [V.ref p]) l c S hr e0 hbd (.cons rfl .nil) rfl fun hroom => ?_
  obtain ⟨t, ht, hkt⟩ := law_ps (ctx_of B S (rp := true) (A := callerA) (outer := []) (s := s) (H := H) (E := C8.E0) (cdv := cdv) (x := x) (f := fa) (fun _ => rfl) hroom) hc hcs hk hT hn
  refine ⟨t, ht.nox, hkt _ H _ p ns ?_ rfl hq hns hbits fun _ => rfl⟩
  show ([some (V.ref p)] ++ List.replicate (N.length - 1) none).length = N.length
  simp only [List.length_append, List.length_replicate, List.length_cons, List.length_nil]
  omega
end
/-- .. as the rows ask it -/
theorem walk {l : PySem.W.OpenLaw} {q : Program} {loose : List Str} {XP : (Str → Option Value) → Heap → Prop} {YP : World → Heap → Prop} {d : DefRec} {K : Params → PySem.W.Frag} (hn : l.most = some 63) (hdf : d.params.defaults = []) (hY : ∀ (w : World) (h : Heap), YP w h → (K w.params).In h)
    (F : ∀ (w : World) (mg : Str → Option Value) (fa : Addr) (h : Heap), (K w.params).In h → h.Ns mainGlobals mg → mg d.name = some (.ref fa) →
      ∃ fd : FuncData, (∀ (s : Shared) (u : Value), BindsTo s fd ⟨[u], []⟩ [("script", u)]) ∧ ∀ base : Heap, (K w.params).In base → base.Ns mainGlobals mg → LawAt l.prog w (K w.params) mg base fa fd "script" 63) :
    PySem.W.WalkO q loose XP YP l.row.toRowW d [] (fun f vs => PySem.call f vs) := walk_at (x := "script") hn (by rw [sizeLine_eq]; decide) hdf hY F
end Vm


set_option Elab.async false
set_option linter.all false
set_option maxRecDepth 100000
set_option maxHeartbeats 4000000
/-! Vm, part 26: plain facts about the evaluator's operations. -/
namespace Vm
open PySem

theorem cmpOk_int (i j : Int) : cmpOk (.int i) (.int j) = true := by
  unfold cmpOk
  rw [show PySem.W.alike (PyData.int i) (PyData.int j) = true from rfl, show (PyData.int i).depth = 0 from rfl]
  rfl
theorem lt_int (i j : Int) : PySem.W.dataLt (.int i) (.int j) = decide (i < j) := PySem.W.dataLt_int i j
@[simp] theorem cmp_lt (i j : Int) : cmpSem .lt (.d (.int i)) (.d (.int j)) = some (decide (i < j)) := by
  show (if cmpOk (.int i) (.int j) = true then some (PySem.W.dataLt (.int i) (.int j)) else none) = _
  rw [if_pos (cmpOk_int i j), lt_int]
@[simp] theorem cmp_gt (i j : Int) : cmpSem .gt (.d (.int i)) (.d (.int j)) = some (decide (j < i)) := by
  show (if cmpOk (.int i) (.int j) = true then some (PySem.W.dataLt (.int j) (.int i)) else none) = _
  rw [if_pos (cmpOk_int i j), lt_int]
@[simp] theorem cmp_le (i j : Int) : cmpSem .le (.d (.int i)) (.d (.int j)) = some (!decide (j < i)) := by
  show (if cmpOk (.int i) (.int j) = true then some (!PySem.W.dataLt (.int j) (.int i)) else none) = _
  rw [if_pos (cmpOk_int i j), lt_int]
@[simp] theorem cmp_ge (i j : Int) : cmpSem .ge (.d (.int i)) (.d (.int j)) = some (!decide (i < j)) := by
  show (if cmpOk (.int i) (.int j) = true then some (!PySem.W.dataLt (.int i) (.int j)) else none) = _
  rw [if_pos (cmpOk_int i j), lt_int]
theorem shaped_int (i : Int) : SeqAt.shaped (.int i) = true := by rfl
@[simp] theorem cmp_eqI (i j : Int) : cmpSem .eq (.d (.int i)) (.d (.int j)) = some (decide (i = j)) := by
  show eqD (.int i) (.int j) = _
  unfold eqD
  rw [shaped_int, shaped_int]
  rfl
@[simp] theorem cmp_neI (i j : Int) : cmpSem .ne (.d (.int i)) (.d (.int j)) = some (!decide (i = j)) := by
  show (eqD (.int i) (.int j)).map (!·) = _
  unfold eqD
  rw [shaped_int, shaped_int]
  rfl
@[simp] theorem bin_add (i j : Int) : binSem .add (.d (.int i)) (.d (.int j)) = some (.d (.int (i + j))) := rfl
@[simp] theorem bin_sub (i j : Int) : binSem .sub (.d (.int i)) (.d (.int j)) = some (.d (.int (i - j))) := rfl
theorem bin_mulS {i j : Int} (h : i.natAbs < 2 ^ 64 ∨ j.natAbs < 2 ^ 64) : binSem .mul (.d (.int i)) (.d (.int j)) = some (.d (.int (i * j))) := by
  show (if _ then _ else _) = _
  rw [if_pos (h.imp id .inl)]
theorem bin_fdiv {i j : Int} (h : 0 < j) (h2 : j.natAbs.log2 < 9000) : binSem .fdiv (.d (.int i)) (.d (.int j)) = some (.d (.int (i / j))) := by
  show (if _ then _ else _) = _
  rw [if_pos ⟨h, h2⟩]
theorem bin_fmod {i j : Int} (h : 0 < j) : binSem .fmod (.d (.int i)) (.d (.int j)) = some (.d (.int (i % j))) := by
  show (if _ then _ else _) = _
  rw [if_pos h]
@[simp] theorem vw_d (st : St) (x : PyData) : vw st (.d x) = some (.d x) := rfl
@[simp] theorem vw_pt (st : St) (x : List PyData) : vw st (.pt x) = some (.d (.tuple x)) := rfl
@[simp] theorem vw_lst (st : St) (x : List PyData) : vw st (.lst x) = some (.d (.list x)) := rfl
@[simp] theorem tru_b (b : Bool) : truSem (.d (.bool b)) = some b := rfl
end Vm


set_option Elab.async false
set_option linter.all false
set_option maxRecDepth 100000
set_option maxHeartbeats 4000000
/-! Vm, part 27: rules by which the evaluator is stepped through: what holds of its answer. -/
namespace Vm
open PySem

/-- x answers, and Q holds of the answer -/
abbrev Wr {α : Type} (_ : α → Prop) : Type := Option α
/-- .. : what is to hold is not looked into by simp -/
def Ex {α : Type} (Q : α → Prop) (x : Wr Q) : Prop := ∃ a, x = some a ∧ Q a
/-- the same, looked into -/
def Ey {α : Type} (x : Option α) (Q : α → Prop) : Prop := ∃ a, x = some a ∧ Q a
theorem ex_ey {α : Type} (x : Option α) (Q : α → Prop) : Ex (x := x) Q = Ey x Q := rfl
section
variable {α β : Type}
theorem ex_some (a : α) (Q : α → Prop) : Ex (x := some a) Q = Q a := by
  refine propext ⟨fun h => ?_, fun h => ⟨a, rfl, h⟩⟩
  obtain ⟨b, e, h⟩ := h
  cases e
  exact h
theorem ex_none (Q : α → Prop) : Ex (x := none) Q = False := propext ⟨fun h => (by obtain ⟨_, e, _⟩ := h; cases e), False.elim⟩
theorem ex_bind (x : Option α) (f : α → Option β) (Q : β → Prop) : Ex (x := x.bind f) Q = Ex (x := x) fun a => Ex (x := f a) Q := by
  cases x with
  | none => rw [Option.bind_none, ex_none, ex_none]
  | some a => rw [Option.bind_some, ex_some]
theorem ex_map (x : Option α) (f : α → β) (Q : β → Prop) : Ex (x := x.map f) Q = Ex (x := x) fun a => Q (f a) := by
  cases x with
  | none => rw [Option.map_none, ex_none, ex_none]
  | some a => rw [Option.map_some, ex_some, ex_some]
theorem ex_ite (c : Prop) [Decidable c] (x y : Option α) (Q : α → Prop) : Ex (x := if c then x else y) Q = ((c → Ex (x := x) Q) ∧ (¬ c → Ex (x := y) Q)) := by
  by_cases h : c
  · rw [if_pos h]; exact propext ⟨fun z => ⟨fun _ => z, fun n => absurd h n⟩, fun z => z.1 h⟩
  · rw [if_neg h]; exact propext ⟨fun z => ⟨fun n => absurd n h, fun _ => z⟩, fun z => z.2 h⟩
theorem ex_iteN (c : Prop) [Decidable c] (x : Option α) (Q : α → Prop) : Ex (x := if c then x else none) Q = (c ∧ Ex (x := x) Q) := by
  rw [ex_ite, ex_none]
  exact propext ⟨fun ⟨a, b⟩ => let d : c := Classical.byContradiction b; ⟨d, a d⟩, fun ⟨a, b⟩ => ⟨fun _ => b, fun n => n a⟩⟩
theorem ey_some (a : α) (Q : α → Prop) : Ey (some a) Q = Q a := ex_some a Q
theorem ey_none (Q : α → Prop) : Ey none Q = False := ex_none Q
theorem ey_bind (x : Option α) (f : α → Option β) (Q : β → Prop) : Ey (x.bind f) Q = Ey x fun a => Ey (f a) Q := ex_bind x f Q
theorem ey_map (x : Option α) (f : α → β) (Q : β → Prop) : Ey (x.map f) Q = Ey x fun a => Q (f a) := ex_map x f Q
theorem ey_iteN (c : Prop) [Decidable c] (x : Option α) (Q : α → Prop) : Ey (if c then x else none) Q = (c ∧ Ey x Q) := ex_iteN c x Q
theorem Ex.mono {x : Option α} {P Q : α → Prop} (h : Ex (x := x) P) (k : ∀ a, P a → Q a) : Ex (x := x) Q := let ⟨a, e, p⟩ := h; ⟨a, e, k a p⟩
theorem Ex.of {x : Option α} {a : α} {Q : α → Prop} (h : x = some a) (k : Q a) : Ex (x := x) Q := ⟨a, h, k⟩
theorem ex_eq {x : Option α} {a : α} (h : x = some a) (Q : α → Prop) : Ex (x := x) Q = Q a := by rw [h, ex_some]
theorem Ex.get {x : Option α} {a : α} (h : Ex (x := x) (· = a)) : x = some a := let ⟨b, e, p⟩ := h; p ▸ e
end
def intO : O → Option Int
  | .d (.int i) => some i
  | _ => none
theorem intO_none {o : O} (h : ∀ i, o = .d (.int i) → False) : intO o = none := by
  unfold intO
  split
  · next i => exact (h i rfl).elim
  · rfl
section
variable {Φ : Fs} {st : St}
theorem q_int (i : Int) (Q : O × St → Prop) : Ex (x := evE Φ (.int i) st) Q = Q (.d (.int i), st) := by rw [evE, ex_some]
theorem q_bl (b : Bool) (Q : O × St → Prop) : Ex (x := evE Φ (.bl b) st) Q = Q (.d (.bool b), st) := by rw [evE, ex_some]
theorem q_non (Q : O × St → Prop) : Ex (x := evE Φ .non st) Q = Q (.d .none, st) := by rw [evE, ex_some]
theorem q_str (x : Str) (Q : O × St → Prop) : Ex (x := evE Φ (.str x) st) Q = Q (.d (.str x), st) := by rw [evE, ex_some]
theorem q_var (i : Nat) (Q : O × St → Prop) : Ex (x := evE Φ (.var i) st) Q = Ex (x := rdVar st i) Q := by rw [evE]
theorem q_bor (i : Nat) (Q : O × St → Prop) : Ex (x := evE Φ (.bor i) st) Q = Ex (x := rdBor st i) Q := by rw [evE]
theorem q_mov (i : Nat) (Q : O × St → Prop) : Ex (x := evE Φ (.mov i) st) Q = Ex (x := rdMov st i) Q := by rw [evE]
theorem q_bin (op : Bop) (a b : E) (Q : O × St → Prop) : Ex (x := evE Φ (.bin op a b) st) Q = Ex (x := evE Φ a st) fun r => Ex (x := evE Φ b r.2) fun q => Ex (x := vw q.2 r.1) fun u => Ex (x := vw q.2 q.1) fun w => Ex (x := binSem op u w) fun z => Q (z, q.2) := by
  rw [evE]; simp only [ex_ey, ey_bind, ey_map]
theorem q_neg (a : E) (Q : O × St → Prop) : Ex (x := evE Φ (.neg a) st) Q = Ex (x := evE Φ a st) fun r => Ex (x := intO r.1) fun i => Q (.d (.int (-i)), r.2) := by
  rw [evE, ex_bind]
  congr 1; funext r; obtain ⟨o, s⟩ := r
  dsimp only
  split
  · simp only [intO, ex_ey, ey_some]
  · next h => rw [intO_none h, ex_none, ex_none]
theorem q_cmp (op : Cop) (a b : E) (Q : O × St → Prop) : Ex (x := evE Φ (.cmp op a b) st) Q = Ex (x := evE Φ a st) fun r => Ex (x := evE Φ b r.2) fun q => Ex (x := vw q.2 r.1) fun u => Ex (x := vw q.2 q.1) fun w => Ex (x := cmpSem op u w) fun z => Q (.d (.bool z), q.2) := by
  rw [evE]; simp only [ex_ey, ey_bind, ey_map]
theorem q_not (a : T) (Q : O × St → Prop) : Ex (x := evE Φ (.not a) st) Q = Ex (x := evT Φ a st) fun r => Q (.d (.bool (!r.1)), r.2) := by rw [evE]; simp only [ex_ey, ey_map]
/-- and / or of bools -/
def boolO : O → Option Bool
  | .d (.bool b) => some b
  | _ => none
theorem q_and (a b : E) (Q : O × St → Prop) : Ex (x := evE Φ (.and a b) st) Q = Ex (x := evE Φ a st) fun r => Ex (x := boolO r.1) fun t => (t = true → Ex (x := evE Φ b r.2) Q) ∧ (t = false → Q (.d (.bool false), r.2)) := by
  rw [evE, ex_bind]
  congr 1; funext r; obtain ⟨o, s⟩ := r
  dsimp only
  split
  · simp only [ex_ey, boolO, ey_some, forall_const, reduceCtorEq, false_implies, true_implies, and_true]
  · simp only [ex_ey, boolO, ey_some, forall_const, reduceCtorEq, false_implies, true_implies, true_and]
  · next h1 h2 =>
    have : boolO o = none := by
      unfold boolO
      split
      · next b => cases b <;> simp_all
      · rfl
    rw [this, ex_none, ex_none]
theorem q_or (a b : E) (Q : O × St → Prop) : Ex (x := evE Φ (.or a b) st) Q = Ex (x := evE Φ a st) fun r => Ex (x := boolO r.1) fun t => (t = true → Q (.d (.bool true), r.2)) ∧ (t = false → Ex (x := evE Φ b r.2) Q) := by
  rw [evE, ex_bind]
  congr 1; funext r; obtain ⟨o, s⟩ := r
  dsimp only
  split
  · simp only [ex_ey, boolO, ey_some, forall_const, reduceCtorEq, false_implies, true_implies, and_true]
  · simp only [ex_ey, boolO, ey_some, forall_const, reduceCtorEq, false_implies, true_implies, true_and]
  · next h1 h2 =>
    have : boolO o = none := by
      unfold boolO
      split
      · next b => cases b <;> simp_all
      · rfl
    rw [this, ex_none, ex_none]
theorem q_ife (c : T) (a b : E) (Q : O × St → Prop) : Ex (x := evE Φ (.ife c a b) st) Q = Ex (x := evT Φ c st) fun r => (r.1 = true → Ex (x := evE Φ a r.2) Q) ∧ (r.1 = false → Ex (x := evE Φ b r.2) Q) := by
  rw [evE, ex_bind]
  congr 1; funext r; obtain ⟨o, s⟩ := r
  cases o <;> simp only [ex_ey, Bool.false_eq_true, if_false, if_true, forall_const, reduceCtorEq, false_implies, true_implies, and_true, true_and]
theorem q_tup (es : Es) (Q : O × St → Prop) : Ex (x := evE Φ (.tup es) st) Q = Ex (x := evEs Φ es st) fun r => r.1.length ≤ sizeLine ∧ Ex (x := datAll r.1) fun xs => Q (.d (.tuple xs), r.2) := by
  rw [evE]; simp only [ex_ey, ey_bind, ey_iteN, ey_map]
theorem q_lst (es : Es) (Q : O × St → Prop) : Ex (x := evE Φ (.lst es) st) Q = Ex (x := evEs Φ es st) fun r => r.1.length ≤ sizeLine ∧ Ex (x := datAll r.1) fun xs => Q (.lst xs, r.2) := by
  rw [evE]; simp only [ex_ey, ey_bind, ey_iteN, ey_map]
theorem q_idx (a i : E) (Q : O × St → Prop) : Ex (x := evE Φ (.idx a i) st) Q = Ex (x := evE Φ a st) fun r => Ex (x := evE Φ i r.2) fun q => Ex (x := vw q.2 r.1) fun u => Ex (x := vw q.2 q.1) fun w => Ex (x := idxSem u w) fun z => Q (z, q.2) := by
  rw [evE]; simp only [ex_ey, ey_bind, ey_map]
theorem q_slc (a : E) (lo hi : Oe) (Q : O × St → Prop) : Ex (x := evE Φ (.slc a lo hi) st) Q = Ex (x := evE Φ a st) fun r => Ex (x := evOe Φ lo r.2) fun q => Ex (x := evOe Φ hi q.2) fun p => Ex (x := vw p.2 r.1) fun u => Ex (x := slcSem u q.1 p.1) fun z => Q (z, p.2) := by
  rw [evE]; simp only [ex_ey, ey_bind, ey_map]
theorem q_rev (a : E) (Q : O × St → Prop) : Ex (x := evE Φ (.rev a) st) Q = Ex (x := evE Φ a st) fun r => Ex (x := vw r.2 r.1) fun u => Ex (x := revSem u) fun z => Q (z, r.2) := by
  rw [evE]; simp only [ex_ey, ey_bind, ey_map]
theorem q_fn (p : Prim) (es : Es) (Q : O × St → Prop) : Ex (x := evE Φ (.fn p es) st) Q = Ex (x := evEs Φ es st) fun r => Ex (x := vwAll r.2 r.1) fun us => Ex (x := primSem p us) fun z => Q (z, r.2) := by
  rw [evE]; simp only [ex_ey, ey_bind, ey_map]
theorem q_mt (m : Mt) (a : E) (es : Es) (Q : O × St → Prop) : Ex (x := evE Φ (.mt m a es) st) Q = Ex (x := evE Φ a st) fun r => Ex (x := vw r.2 r.1) fun u => mtTy m u = true ∧ Ex (x := evEs Φ es r.2) fun q => Ex (x := vwAll q.2 (r.1 :: q.1)) fun us => Ex (x := mtSem m us) fun z => Q (z, q.2) := by
  rw [evE]; simp only [ex_ey, ey_bind, ey_map, ey_iteN]
theorem q_call {f : Str} {n : Nat} {φ : PFn} (h : Φ.p f = some (n, φ)) (es : Es) (Q : O × St → Prop) : Ex (x := evE Φ (.call f es) st) Q = Ex (x := evEs Φ es st) fun r => Ex (x := frzAll r.1) fun qs => (qs.length = n ∧ qs.all O.free = true) ∧ Ex (x := φ qs) fun z => Q (z, r.2) := by
  rw [evE, h]; simp only [ex_ey, ey_bind, ey_map, ey_iteN]
theorem q_calls {f : Str} {n : Nat} {φ : SFn} (h : Φ.s f = some (n, φ)) (es : Es) (Q : O × St → Prop) : Ex (x := evE Φ (.calls f es) st) Q = Ex (x := evEs Φ es st) fun r => Ex (x := frzAll r.1) fun qs => Ex (x := r.2.src) fun s => qs.length = n ∧ Ex (x := φ qs s) fun z => Q (z.1, { r.2 with src := some z.2 }) := by
  rw [evE, h]
  simp only [ex_ey, ey_bind]
  congr 1; funext r; congr 1; funext qs
  cases r.2.src with
  | none => simp only [ex_ey, ey_none]
  | some s => simp only [ex_ey, ey_some, ey_iteN, ey_map]
def lcStep (Φ : Fs) (elt : E) (tg : Tg) (c : Oc) (x : PyData) (s : St) : Option (Option O × St) := (asg tg x s).bind fun s2 => (evOc Φ c s2).bind fun (t, s3) => if t then (evE Φ elt s3).map fun (o, s4) => (some o, s4) else some (none, s3)
theorem q_lcStep (elt : E) (tg : Tg) (c : Oc) (x : PyData) (Q : Option O × St → Prop) : Ex (x := lcStep Φ elt tg c x st) Q = Ex (x := asg tg x st) fun s2 => Ex (x := evOc Φ c s2) fun r => (r.1 = true → Ex (x := evE Φ elt r.2) fun q => Q (some q.1, q.2)) ∧ (r.1 = false → Q (none, r.2)) := by
  unfold lcStep
  simp only [ex_ey, ey_bind]
  congr 1; funext s2; congr 1; funext r
  obtain ⟨t, s3⟩ := r
  cases t <;> simp only [ex_ey, Bool.false_eq_true, if_false, if_true, ey_map, ey_some, forall_const, reduceCtorEq, false_implies, true_implies, and_true, true_and]
theorem q_lc (elt : E) (tg : Tg) (it : It) (c : Oc) (own : List Nat) (Q : O × St → Prop) : Ex (x := evE Φ (.lc false elt tg it c own) st) Q = Ex (x := evIt Φ it st) fun r => Ex (x := lcLoop (lcStep Φ elt tg c) own r.1 (clr own r.2)) fun q => q.1.length ≤ sizeLine ∧ Ex (x := datAll q.1) fun ys => Q (.lst ys, q.2) := by
  rw [evE]; simp only [ex_ey, ey_bind, ey_iteN, ey_map, Bool.false_eq_true, if_false]
  rfl
theorem q_dnew (t : Bool) (Q : O × St → Prop) : Ex (x := evE Φ (.dnew t) st) Q = Q (.dct t [], st) := by rw [evE, ex_some]
theorem q_dof (e : E) (Q : O × St → Prop) : Ex (x := evE Φ (.dof true e) st) Q = Ex (x := evE Φ e st) fun r => Ex (x := seqP r.2 r.1) fun xs => Ex (x := pairsOf xs) fun ps => Ex (x := dictOf true ps []) fun kvs => Q (.dct true kvs, r.2) := by
  rw [evE]; simp only [ex_ey, ey_bind, ey_map, if_true]
theorem q_sg (i : Nat) (k : Str) (Q : O × St → Prop) : Ex (x := evE Φ (.sg i k) st) Q = (isSrc st i = true ∧ Ex (x := st.src) fun s => Ex (x := sget s k) fun v => Q (.d (.int v), st)) := by
  rw [evE]; simp only [ex_ey, ey_bind, ey_map, ey_iteN]
theorem q_sl (i : Nat) (Q : O × St → Prop) : Ex (x := evE Φ (.sl i) st) Q = (isSrc st i = true ∧ Ex (x := st.src) fun s => Q (.d (.int s.cells.length), st)) := by
  rw [evE]; simp only [ex_ey, ey_bind, ey_map, ey_iteN]
theorem q_sp (i : Nat) (Q : O × St → Prop) : Ex (x := evE Φ (.sp i) st) Q = (isSrc st i = true ∧ Ex (x := st.src) fun s => Ex (x := s.cells[s.cells.length - 1]?) fun v => Q (.d (.int v), { st with src := some { s with cells := s.cells.dropLast } })) := by
  rw [evE]; simp only [ex_ey, ey_bind, ey_map, ey_iteN]
theorem q_nil (Q : List O × St → Prop) : Ex (x := evEs Φ .nil st) Q = Q ([], st) := by rw [evEs, ex_some]
theorem q_cons (e : E) (es : Es) (Q : List O × St → Prop) : Ex (x := evEs Φ (.cons e es) st) Q = Ex (x := evE Φ e st) fun r => Ex (x := evEs Φ es r.2) fun q => Q (r.1 :: q.1, q.2) := by
  rw [evEs]; simp only [ex_ey, ey_bind, ey_map]
theorem q_oeno (Q : Option Int × St → Prop) : Ex (x := evOe Φ .no st) Q = Q (none, st) := by rw [evOe, ex_some]
theorem q_oeyes (e : E) (Q : Option Int × St → Prop) : Ex (x := evOe Φ (.yes e) st) Q = Ex (x := evE Φ e st) fun r => Ex (x := intO r.1) fun i => Q (some i, r.2) := by
  rw [evOe, ex_bind]
  congr 1; funext r; obtain ⟨o, s⟩ := r
  dsimp only
  split
  · simp only [ex_ey, intO, ey_some]
  · next h =>
    simp only [intO_none h, ex_ey, ey_none]
theorem q_ocno (Q : Bool × St → Prop) : Ex (x := evOc Φ .no st) Q = Q (true, st) := by rw [evOc, ex_some]
theorem q_ocyes (c : T) (Q : Bool × St → Prop) : Ex (x := evOc Φ (.yes c) st) Q = Ex (x := evT Φ c st) Q := by rw [evOc]
theorem q_tv (e : E) (Q : Bool × St → Prop) : Ex (x := evT Φ (.v e) st) Q = Ex (x := evE Φ e st) fun r => Ex (x := vw r.2 r.1) fun u => Ex (x := truSem u) fun b => Q (b, r.2) := by
  rw [evT]; simp only [ex_ey, ey_bind, ey_map]
theorem q_tand (a b : T) (Q : Bool × St → Prop) : Ex (x := evT Φ (.and a b) st) Q = Ex (x := evT Φ a st) fun r => (r.1 = true → Ex (x := evT Φ b r.2) Q) ∧ (r.1 = false → Q (false, r.2)) := by
  rw [evT, ex_bind]
  congr 1; funext r; obtain ⟨o, s⟩ := r
  cases o <;> simp only [ex_ey, Bool.false_eq_true, if_false, if_true, ey_some, forall_const, reduceCtorEq, false_implies, true_implies, and_true, true_and]
theorem q_tor (a b : T) (Q : Bool × St → Prop) : Ex (x := evT Φ (.or a b) st) Q = Ex (x := evT Φ a st) fun r => (r.1 = true → Q (true, r.2)) ∧ (r.1 = false → Ex (x := evT Φ b r.2) Q) := by
  rw [evT, ex_bind]
  congr 1; funext r; obtain ⟨o, s⟩ := r
  cases o <;> simp only [ex_ey, Bool.false_eq_true, if_false, if_true, ey_some, forall_const, reduceCtorEq, false_implies, true_implies, and_true, true_and]
theorem q_tnot (a : T) (Q : Bool × St → Prop) : Ex (x := evT Φ (.not a) st) Q = Ex (x := evT Φ a st) fun r => Q (!r.1, r.2) := by rw [evT]; simp only [ex_ey, ey_map]
theorem q_seq (e : E) (Q : List PyData × St → Prop) : Ex (x := evIt Φ (.seq e) st) Q = Ex (x := evE Φ e st) fun r => Ex (x := r.1.dat) fun o => Ex (x := seqOf o) fun xs => Q (xs, r.2) := by
  rw [evIt]; simp only [ex_ey, ey_bind, ey_map]
theorem q_rng1 (b : E) (Q : List PyData × St → Prop) : Ex (x := evIt Φ (.rng1 b) st) Q = Ex (x := evE Φ b st) fun r => Ex (x := intO r.1) fun j => inBnd j = true ∧ Q (rngD 0 j.toNat, r.2) := by
  rw [evIt, ex_bind]
  congr 1; funext r; obtain ⟨o, s⟩ := r
  dsimp only
  split
  · simp only [ex_ey, intO, ey_some, ey_iteN]
  · next h =>
    simp only [intO_none h, ex_ey, ey_none]
theorem q_rng2 (a b : E) (Q : List PyData × St → Prop) : Ex (x := evIt Φ (.rng2 a b) st) Q = Ex (x := evE Φ a st) fun r => Ex (x := evE Φ b r.2) fun q => Ex (x := intO r.1) fun i => Ex (x := intO q.1) fun j => (inBnd i && inBnd j) = true ∧ Q (rngD i (j - i).toNat, q.2) := by
  rw [evIt]
  simp only [ex_ey, ey_bind]
  congr 1; funext r; congr 1; funext q
  obtain ⟨o, s⟩ := r; obtain ⟨p, s'⟩ := q
  dsimp only
  split
  · simp only [ex_ey, intO, ey_some, ey_iteN]
  · next h =>
    cases ho : intO o with
    | none => simp only [ey_none]
    | some i =>
      cases hp : intO p with
      | none => simp only [ey_none, ey_some]
      | some j =>
        exfalso
        unfold intO at ho hp
        split at ho
        · split at hp
          · exact h _ _ rfl rfl
          · cases hp
        · cases ho
theorem q_zip (a b : E) (Q : List PyData × St → Prop) : Ex (x := evIt Φ (.zip a b) st) Q = Ex (x := evE Φ a st) fun r => Ex (x := evE Φ b r.2) fun q => Ex (x := datAll [r.1, q.1]) fun ds => Ex (x := zip2 ds) fun p => Q (zipD p.1 p.2, q.2) := by
  rw [evIt]; simp only [ex_ey, ey_bind, ey_map]
theorem q_zips (a b : E) (Q : List PyData × St → Prop) : Ex (x := evIt Φ (.zips a b) st) Q = Ex (x := evE Φ a st) fun r => Ex (x := evE Φ b r.2) fun q => Ex (x := datAll [r.1, q.1]) fun ds => Ex (x := zip2t ds) fun p => p.1.length = p.2.length ∧ Q (zipD p.1 p.2, q.2) := by
  rw [evIt]; simp only [ex_ey, ey_bind, ey_iteN, ey_some]

/-! ### statements -/
def OutK (Φ : Fs) (ss : Ss) (Q : Out → Prop) : Out → Prop
  | .nx s => Ex (x := evSs Φ ss s) Q
  | o => Q o
theorem outK_nx (ss : Ss) (s : St) (Q : Out → Prop) : OutK Φ ss Q (.nx s) = Ex (x := evSs Φ ss s) Q := rfl
theorem outK_ret (ss : Ss) (o : O) (s : Option Src) (Q : Out → Prop) : OutK Φ ss Q (.ret o s) = Q (.ret o s) := rfl
theorem outK_brk (ss : Ss) (s : St) (Q : Out → Prop) : OutK Φ ss Q (.brk s) = Q (.brk s) := rfl
theorem outK_cnt (ss : Ss) (s : St) (Q : Out → Prop) : OutK Φ ss Q (.cnt s) = Q (.cnt s) := rfl
theorem q_snil (Q : Out → Prop) : Ex (x := evSs Φ .nil st) Q = Q (.nx st) := by rw [evSs, ex_some]
theorem q_scons (s : S) (ss : Ss) (Q : Out → Prop) : Ex (x := evSs Φ (.cons s ss) st) Q = Ex (x := evS Φ s st) (OutK Φ ss Q) := by
  rw [evSs]
  cases evS Φ s st with
  | none => rw [ex_none, ex_none]
  | some o => cases o <;> simp only [ex_ey, ey_some, OutK]
theorem q_set (i : Nat) (e : E) (Q : Out → Prop) : Ex (x := evS Φ (.set i e) st) Q = Ex (x := evE Φ e st) fun r => Ex (x := put r.2 i r.1) fun s => Q (.nx s) := by
  rw [evS]; simp only [ex_ey, ey_bind, ey_map]
theorem q_par (is : List Nat) (es : Es) (Q : Out → Prop) : Ex (x := evS Φ (.par is es) st) Q = Ex (x := evEs Φ es st) fun r => Ex (x := puts is r.1 r.2) fun s => Q (.nx s) := by
  rw [evS]; simp only [ex_ey, ey_bind, ey_map]
theorem q_sti (i : Nat) (k e : E) (Q : Out → Prop) (h : ∃ o, st.ρ[i]? = some (some o)) : Ex (x := evS Φ (.sti i k e) st) Q = Ex (x := evE Φ e st) fun r => Ex (x := evE Φ k r.2) fun q => Ex (x := stAt q.2 i q.1 r.1) fun s => Q (.nx s) := by
  obtain ⟨o, h⟩ := h
  rw [evS, h]; simp only [ex_ey, ey_bind, ey_map]
theorem q_app (i : Nat) (e : E) (Q : Out → Prop) (h : ∃ xs, st.ρ[i]? = some (some (.lst xs))) : Ex (x := evS Φ (.app i e) st) Q = Ex (x := evE Φ e st) fun r => Ex (x := appAt r.2 i r.1) fun s => Q (.nx s) := by
  obtain ⟨o, h⟩ := h
  rw [evS, h]; simp only [ex_ey, ey_bind, ey_map]
theorem q_ifs (c : T) (a b : Ss) (Q : Out → Prop) : Ex (x := evS Φ (.ifs c a b) st) Q = Ex (x := evT Φ c st) fun r => (r.1 = true → Ex (x := evSs Φ a r.2) Q) ∧ (r.1 = false → Ex (x := evSs Φ b r.2) Q) := by
  rw [evS, ex_bind]
  congr 1; funext r; obtain ⟨o, s⟩ := r
  cases o <;> simp only [ex_ey, Bool.false_eq_true, if_false, if_true, forall_const, reduceCtorEq, false_implies, true_implies, and_true, true_and]
def forStep (Φ : Fs) (tg : Tg) (body : Ss) (x : PyData) (s : St) : Option Out := (asg tg x s).bind fun s2 => evSs Φ body s2
theorem q_forStep (tg : Tg) (body : Ss) (x : PyData) (Q : Out → Prop) : Ex (x := forStep Φ tg body x st) Q = Ex (x := asg tg x st) fun s2 => Ex (x := evSs Φ body s2) Q := by
  unfold forStep; rw [ex_bind]
theorem q_forr (tg : Tg) (it : It) (body : Ss) (Q : Out → Prop) : Ex (x := evS Φ (.forr tg it body) st) Q = Ex (x := evIt Φ it st) fun r => Ex (x := forLoop (forStep Φ tg body) r.1 r.2) Q := by
  rw [evS, ex_bind]; rfl
theorem q_whl (n : Nat) (c : T) (body : Ss) (Q : Out → Prop) : Ex (x := evS Φ (.whl n c body) st) Q = Ex (x := whlLoop (evT Φ c) (evSs Φ body) n st) Q := by rw [evS]
theorem q_ret (e : E) (Q : Out → Prop) : Ex (x := evS Φ (.ret e) st) Q = Ex (x := evE Φ e st) fun r => r.1.slot = true ∧ Q (.ret r.1 r.2.src) := by
  rw [evS]; simp only [ex_ey, ey_bind, ey_iteN, ey_some]
theorem q_retn (Q : Out → Prop) : Ex (x := evS Φ .retn st) Q = Q (.ret (.d .none) st.src) := by rw [evS, ex_some]
theorem q_brk (Q : Out → Prop) : Ex (x := evS Φ .brk st) Q = Q (.brk st) := by rw [evS, ex_some]
theorem q_cnt (Q : Out → Prop) : Ex (x := evS Φ .cnt st) Q = Q (.cnt st) := by rw [evS, ex_some]
theorem q_pass (Q : Out → Prop) : Ex (x := evS Φ .pass st) Q = Q (.nx st) := by rw [evS, ex_some]
theorem q_sw (i : Nat) (k : Str) (e : E) (Q : Out → Prop) : Ex (x := evS Φ (.sw i k e) st) Q = (isSrc st i = true ∧ Ex (x := evE Φ e st) fun r => Ex (x := intO r.1) fun v => Ex (x := r.2.src) fun s => Ex (x := sput s k v) fun s' => Q (.nx { r.2 with src := some s' })) := by
  rw [evS]; simp only [ex_ey, ey_bind, ey_iteN]
  congr 1; congr 1; funext r; obtain ⟨o, s⟩ := r
  dsimp only
  split
  · simp only [ex_ey, intO, ey_some, ey_bind, ey_map]
  · next h =>
    simp only [intO_none h, ex_ey, ey_none]
/-! ### calls -/
def RetP (Q : O → Prop) : Out → Prop
  | .ret o _ => Q o
  | .nx _ => Q (.d .none)
  | _ => False
def RetS (Q : O × Src → Prop) : Out → Prop
  | .ret o (some s) => Q (o, s)
  | .nx st => Ex (x := st.src) fun s => Q (.d .none, s)
  | _ => False
theorem retP_ret (Q : O → Prop) (o : O) (s : Option Src) : RetP Q (.ret o s) = Q o := rfl
theorem retS_ret (Q : O × Src → Prop) (o : O) (s : Src) : RetS Q (.ret o (some s)) = Q (o, s) := rfl
theorem q_runP (n : Nat) (body : Ss) (os : List O) (Q : O → Prop) : Ex (x := runP Φ n body os) Q = Ex (x := evSs Φ body ⟨initR n os, none⟩) (RetP Q) := by
  unfold runP
  cases evSs Φ body ⟨initR n os, none⟩ with
  | none => simp only [ex_ey, ey_none]
  | some o => cases o <;> simp only [ex_ey, ey_some, ey_none, RetP]
theorem q_runS (n : Nat) (body : Ss) (os : List O) (s : Src) (Q : O × Src → Prop) : Ex (x := runS Φ n body os s) Q = Ex (x := evSs Φ body ⟨initR n os, some s⟩) (RetS Q) := by
  unfold runS
  cases evSs Φ body ⟨initR n os, some s⟩ with
  | none => simp only [ex_ey, ey_none]
  | some o => cases o with
    | ret o s => cases s <;> simp only [ex_ey, ey_some, ey_none, RetS]
    | nx st => simp only [ex_ey, ey_some, ey_map, RetS]
    | _ => simp only [ex_ey, ey_some, ey_none, RetS]
end
/-! ### loops -/
theorem forLoop_inv {f : PyData → St → Option Out} {Q : Out → Prop} (I : List PyData → St → Prop) (hx : ∀ x xs s, I (x :: xs) s → Ex (x := f x s) fun o => match o with
    | .nx s => I xs s
    | .cnt s => I xs s
    | .brk s => Q (.nx s)
    | .ret o s => Q (.ret o s)) (hn : ∀ s, I [] s → Q (.nx s)) : ∀ (xs : List PyData) (s : St), I xs s → Ex (x := forLoop f xs s) Q
  | [], s, h => by
    unfold forLoop
    rw [ex_some]
    exact hn s h
  | x :: xs, s, h => by
    obtain ⟨o, e, k⟩ := hx x xs s h
    unfold forLoop
    rw [e]
    cases o with
    | nx s' => exact forLoop_inv I hx hn xs s' k
    | cnt s' => exact forLoop_inv I hx hn xs s' k
    | brk s' => exact .of rfl k
    | ret o s' => exact .of rfl k
/-- a comprehension whose turns leave the state as it is -/
theorem lc_pure {f : PyData → St → Option (Option O × St)} {own : List Nat} {st : St} (g : PyData → Option O) : ∀ (xs : List PyData), (∀ x ∈ xs, Ex (x := f x st) fun r => r.1 = g x ∧ clr own r.2 = st) → lcLoop f own xs st = some (xs.filterMap g, st)
  | [], _ => rfl
  | x :: xs, h => by
    obtain ⟨⟨o, s⟩, e, e1, e2⟩ := h x List.mem_cons_self
    have e1 : o = g x := e1
    have e2 : clr own s = st := e2
    unfold lcLoop
    rw [e, Option.bind_some]
    show (lcLoop f own xs (clr own s)).map _ = _
    rw [e2, lc_pure g xs fun y hy => h y (List.mem_cons_of_mem _ hy), Option.map_some, List.filterMap_cons]
    subst e1
    cases g x <;> rfl
theorem lc_inv {f : PyData → St → Option (Option O × St)} {own : List Nat} (I : St → Prop) (P : O → Prop) : ∀ (xs : List PyData) (st : St), I st → (∀ x ∈ xs, ∀ s, I s → Ex (x := f x s) fun r => (∀ o, r.1 = some o → P o) ∧ I (clr own r.2)) → Ex (x := lcLoop f own xs st) fun r => (∀ o ∈ r.1, P o) ∧ r.1.length ≤ xs.length ∧ I r.2
  | [], st, h, _ => Ex.of rfl ⟨fun _ z => (List.not_mem_nil z).elim, Nat.le_refl _, h⟩
  | x :: xs, st, h, k => by
    obtain ⟨⟨o, s⟩, e, e1, e2⟩ := k x List.mem_cons_self st h
    obtain ⟨⟨os, s2⟩, e3, e4, e5, e6⟩ := lc_inv I P xs (clr own s) e2 fun y hy => k y (List.mem_cons_of_mem _ hy)
    unfold lcLoop
    rw [e, Option.bind_some]
    show Ex (x := (lcLoop f own xs (clr own s)).map _) _
    rw [e3, Option.map_some]
    refine Ex.of rfl ⟨fun p hp => ?_, ?_, e6⟩
    · rcases List.mem_append.1 hp with q | q
      · exact e1 p (by cases o with | none => nomatch q | some z => rw [List.mem_singleton.1 q])
      · exact e4 p q
    · show (o.toList ++ os).length ≤ _
      rw [List.length_append, List.length_cons]
      cases o with
      | none => simpa using Nat.le_succ_of_le e5
      | some z => simp only [Option.toList_some, List.length_cons, List.length_nil]; have := show os.length ≤ xs.length from e5; omega
end Vm


set_option Elab.async false
set_option linter.all false
set_option maxRecDepth 100000
set_option maxHeartbeats 4000000
/-! Vm, part 28: the draw from the source, as the laws from k82 on make it. -/
namespace Vm
open PySem
theorem sget_left (s : Src) : sget s "left" = some s.left := rfl
theorem sget_mixed (s : Src) : sget s "mixed" = some s.mixed := rfl
theorem sget_turn (s : Src) : sget s "turn" = some s.turn := rfl
theorem sput_left (s : Src) (v : Int) : sput s "left" v = some { s with left := v } := rfl
theorem sput_mixed (s : Src) (v : Int) : sput s "mixed" v = some { s with mixed := v } := rfl
theorem sput_turn (s : Src) (v : Int) : sput s "turn" v = some { s with turn := v } := rfl

local macro_rules | `(tactic| and_intros) => `(tactic| simp -dsimp only [q_int, q_bl, q_non, q_str, q_var, q_bor, q_mov, q_bin, q_neg, q_cmp, q_not, q_and, q_or, q_ife, q_tup, q_lst, q_idx, q_slc, q_rev, q_fn, q_mt, q_lcStep, q_lc, q_dnew, q_dof, q_sg, q_sl, q_sp, q_nil, q_cons, q_oeno, q_oeyes, q_ocno, q_ocyes, q_tv, q_tand, q_tor, q_tnot, q_seq, q_rng1, q_rng2, q_zip, q_zips, outK_nx, outK_ret, outK_brk, outK_cnt, q_snil, q_scons, q_set, q_par, q_ifs, q_forStep, q_forr, q_whl, q_ret, q_retn, q_brk, q_cnt, q_pass, q_sw, retP_ret, retS_ret, q_runP, q_runS, ex_some, ex_none, ex_iteN, ex_map, ex_bind,
  rdVar, rdBor, rdMov, O.frz, List.getElem?_cons_zero, List.getElem?_cons_succ, St.set, List.set_cons_zero, List.set_cons_succ, Option.map_some, Option.map_none, Option.bind_some, Option.bind_none, isSrc, sget_left, sget_mixed, sget_turn, sput_left, sput_mixed, sput_turn, vw_d, vw_pt, vw_lst, cmp_lt, cmp_gt, cmp_le, cmp_ge, cmp_eqI, cmp_neI, bin_add, bin_sub, tru_b, boolO, intO, put, puts, O.slot, List.length_cons, List.length_nil, Nat.reduceAdd, Nat.reduceLT, Nat.reduceLeDiff, and_true, true_and, and_self, forall_const, true_implies, false_implies, reduceCtorEq, decide_eq_true_eq, decide_eq_false_iff_not, if_true, if_false, Int.reduceNeg, Option.some.injEq, primSem, vwAll, datAll, O.dat, implies_true])
/-- the text of the draw -/
def a_pick : Ss := (.cons (.ifs (.v (.cmp .lt (.bor 1) (.int 2))) (.cons (.ret (.int 0)) .nil) .nil) (.cons (.whl 100 (.and (.v (.cmp .lt (.sg 0 "left") (.int 2))) (.v (.cmp .gt (.sl 0) (.int 0)))) (.cons (.sw 0 "left" (.sp 0)) .nil)) (.cons (.set 2 (.sg 0 "left")) (.cons (.ifs (.v (.cmp .gt (.bor 2) (.int 1))) (.cons (.sw 0 "left" (.bin .fdiv (.bor 2) (.bor 1))) (.cons (.ret (.bin .fmod (.fn .int (.cons (.bor 2) .nil)) (.bor 1))) .nil)) .nil) (.cons (.sw 0 "turn" (.bin .add (.sg 0 "turn") (.int 1))) (.cons (.set 3 (.bin .fmod (.fn .int (.cons (.bin .add (.sg 0 "mixed") (.bin .mul (.sg 0 "turn") (.int 104729))) .nil)) (.int 998244353))) (.cons (.set 3 (.bin .fmod (.fn .int (.cons (.bin .add (.bin .mul (.bor 3) (.bor 3)) (.bin .mul (.sg 0 "turn") (.int 17))) .nil)) (.int 2147483647))) (.cons (.sw 0 "mixed" (.var 3)) (.cons (.ret (.bin .fmod (.fn .int (.cons (.bin .fdiv (.bor 3) (.int 16)) .nil)) (.bor 1))) .nil)))))))))
theorem pick_whl {Φ : Fs} {ρ : List (Option O)} : ∀ (n : Nat) (s : Src), s.cells.length < n → Ex (x := whlLoop (evT Φ (.and (.v (.cmp .lt (.sg 0 "left") (.int 2))) (.v (.cmp .gt (.sl 0) (.int 0))))) (evSs Φ (.cons (.sw 0 "left" (.sp 0)) .nil)) n ⟨some .src :: ρ, some s⟩) fun o => ∃ s', o = .nx ⟨some .src :: ρ, some s'⟩ ∧ s'.cells.length ≤ s.cells.length
  | 0, s, h => absurd h (Nat.not_lt_zero _)
  | n + 1, s, h => by
    have hc : evT Φ (.and (.v (.cmp .lt (.sg 0 "left") (.int 2))) (.v (.cmp .gt (.sl 0) (.int 0)))) ⟨some .src :: ρ, some s⟩ = some (decide (s.left < 2) && decide (0 < (s.cells.length : Int)), ⟨some .src :: ρ, some s⟩) := by
      apply Ex.get
      and_intros
      by_cases h1 : s.left < 2 <;> simp [h1]
    unfold whlLoop
    rw [hc]
    cases hb : (decide (s.left < 2) && decide (0 < (s.cells.length : Int))) with
    | false => exact Ex.of rfl ⟨s, rfl, Nat.le_refl _⟩
    | true =>
      simp only [Bool.and_eq_true, decide_eq_true_eq] at hb
      have hl : s.cells.length - 1 < s.cells.length := by omega
      have hv : s.cells[s.cells.length - 1]? = some s.cells[s.cells.length - 1] := List.getElem?_eq_getElem hl
      obtain ⟨o, e, h2⟩ : Ex (x := evSs Φ (.cons (.sw 0 "left" (.sp 0)) .nil) ⟨some .src :: ρ, some s⟩) fun o => ∃ s', o = .nx ⟨some .src :: ρ, some s'⟩ ∧ s'.cells.length = s.cells.length - 1 := by
        and_intros
        rw [ex_eq hv]
        and_intros
        exact ⟨_, rfl, by rw [List.length_dropLast]⟩
      obtain ⟨s', rfl, h3⟩ := h2
      show Ex (x := match evSs Φ (.cons (.sw 0 "left" (.sp 0)) .nil) ⟨some .src :: ρ, some s⟩ with
        | some (.nx s) => whlLoop _ _ n s
        | some (.cnt s) => whlLoop _ _ n s
        | some (.brk s) => some (.nx s)
        | some (.ret o s) => some (.ret o s)
        | none => none) _
      rw [e]
      refine (pick_whl n s' (by omega)).mono fun o ⟨s2, e2, h4⟩ => ⟨s2, e2, by omega⟩
theorem pick_spec {Φ : Fs} (s : Src) (m : Int) (hs : s.cells.length ≤ 63) (hm : m.natAbs.log2 < 9000) : Ex (x := runS Φ 4 a_pick [.src, .d (.int m)] s) fun r => ∃ v s', r = (.d (.int v), s') ∧ 0 ≤ v ∧ (v < m ∨ v = 0) ∧ s'.cells.length ≤ 63 := by
  unfold a_pick
  rw [q_runS]
  show Ex (x := evSs Φ _ ⟨[some .src, some (.d (.int m)), none, none], some s⟩) _
  and_intros
  refine ⟨fun _ => ⟨0, s, rfl, Int.le_refl _, .inr rfl, hs⟩, fun h2 => ?_⟩
  refine (pick_whl 100 s (by omega)).mono fun o ⟨s1, e1, h1⟩ => ?_
  subst e1
  and_intros
  refine ⟨fun h3 => ?_, fun h3 => ?_⟩
  · rw [bin_fdiv (by omega) hm]
    and_intros
    rw [bin_fmod (by omega)]
    and_intros
    exact ⟨_, _, rfl, Int.emod_nonneg _ (by omega), .inl (Int.emod_lt_of_pos _ (by omega)), Nat.le_trans h1 hs⟩
  · rw [bin_mulS (.inr (by decide))]
    and_intros
    rw [bin_fmod (by decide)]
    and_intros
    rw [bin_mulS (.inl (by omega))]
    and_intros
    rw [bin_mulS (.inr (by decide))]
    and_intros
    rw [bin_fmod (by decide)]
    and_intros
    rw [bin_fdiv (by decide) (by decide)]
    and_intros
    rw [bin_fmod (by omega)]
    and_intros
    exact ⟨_, _, rfl, Int.emod_nonneg _ (by omega), .inl (Int.emod_lt_of_pos _ (by omega)), Nat.le_trans h1 hs⟩
end Vm


set_option Elab.async false
set_option linter.all false
set_option maxRecDepth 100000
set_option maxHeartbeats 4000000
/-! Vm, part 29: draws of a member. -/
namespace Vm
open PySem PySem.Spec PyProof.Rows L2

local macro_rules | `(tactic| and_intros) => `(tactic| simp -dsimp only [q_int, q_bl, q_non, q_str, q_var, q_bor, q_mov, q_bin, q_neg, q_cmp, q_not, q_and, q_or, q_ife, q_tup, q_lst, q_idx, q_slc, q_rev, q_fn, q_mt, q_lcStep, q_lc, q_dnew, q_dof, q_sg, q_sl, q_sp, q_nil, q_cons, q_oeno, q_oeyes, q_ocno, q_ocyes, q_tv, q_tand, q_tor, q_tnot, q_seq, q_rng1, q_rng2, q_zip, q_zips, outK_nx, outK_ret, outK_brk, outK_cnt, q_snil, q_scons, q_set, q_par, q_ifs, q_forStep, q_forr, q_whl, q_ret, q_retn, q_brk, q_cnt, q_pass, q_sw, retP_ret, retS_ret, ex_some, ex_none, ex_iteN, ex_map, ex_bind,
  rdVar, rdBor, rdMov, O.frz, List.getElem?_cons_zero, List.getElem?_cons_succ, St.set, List.set_cons_zero, List.set_cons_succ, Option.map_some, Option.map_none, Option.bind_some, Option.bind_none, isSrc, sget_left, sget_mixed, sget_turn, sput_left, sput_mixed, sput_turn, vw_d, vw_pt, vw_lst, cmp_lt, cmp_gt, cmp_le, cmp_ge, cmp_eqI, cmp_neI, bin_add, bin_sub, tru_b, boolO, intO, put, puts, O.slot, List.length_cons, List.length_nil, Nat.reduceAdd, Nat.reduceLT, Nat.reduceLeDiff, and_true, true_and, and_self, forall_const, true_implies, false_implies, reduceCtorEq, decide_eq_true_eq, decide_eq_false_iff_not, if_true, if_false, Int.reduceNeg, Option.some.injEq, primSem, vwAll, datAll, O.dat, implies_true, frzAll, vw, vw0, seqOf, mtTy, List.all_cons, List.all_nil, O.free, Bool.and_self, Bool.and_true, Bool.true_and, idxSem, asg, asgs, List.length_map, stAt, Bool.not_true, Bool.not_false, Bool.false_eq_true])
theorem pick_nat {Φ : Fs} (s : Src) (m : Int) (hs : s.cells.length ≤ 63) (hm : m < 1000000000) (h0 : 0 ≤ m) : Ex (x := runS Φ 4 a_pick [.src, .d (.int m)] s) fun r => ∃ (v : Nat) (s' : Src), r = (.d (.int (v : Int)), s') ∧ ((v : Int) < m ∨ v = 0) ∧ s'.cells.length ≤ 63 := by
  have hl : m.natAbs.log2 < 9000 := by
    by_cases h : m.natAbs = 0
    · rw [h]; decide
    · exact Nat.lt_of_lt_of_le ((Nat.log2_lt h).2 (show m.natAbs < 2 ^ 30 by omega)) (by decide)
  refine (pick_spec s m hs hl).mono fun r ⟨v, s', e, h1, h2, h3⟩ => ⟨v.toNat, s', ?_, by omega, h3⟩
  rw [e, Int.toNat_of_nonneg h1]
theorem atI_lt {α : Type} {xs : List α} {j : Nat} (h : j < xs.length) : atI xs (j : Int) = some xs[j] := atI_nat (List.getElem?_eq_getElem h)
theorem ixN_lt {n j : Nat} (h : j < n) : ixN n (j : Int) = some j := by
  unfold ixN
  rw [if_pos (by omega), if_pos (by omega)]
  rfl
/-- one of some -/
def a_of : Ss := (.cons (.ret (.idx (.bor 1) (.calls "_law_pick" (.cons (.var 0) (.cons (.fn .len (.cons (.bor 1) .nil)) .nil))))) .nil)
def seqD : PyData → Option (List PyData)
  | .list xs => some xs
  | .tuple xs => some xs
  | _ => none
theorem of_spec {Φ Φ' : Fs} (hp : Φ.s "_law_pick" = some (2, runS Φ' 4 a_pick)) (s : Src) (d : PyData) {xs : List PyData} (hd : seqD d = some xs) (h0 : xs ≠ []) (hx : xs.length < 1000000) (hs : s.cells.length ≤ 63) :
    Ex (x := runS Φ 2 a_of [.src, .d d] s) fun r => ∃ x ∈ xs, ∃ s' : Src, r = (.d x, s') ∧ s'.cells.length ≤ 63 := by
  have hpos : 0 < xs.length := List.length_pos_iff.2 h0
  unfold a_of
  rw [q_runS]
  show Ex (x := evSs Φ _ ⟨[some .src, some (.d d)], some s⟩) _
  unfold seqD at hd
  split at hd
  all_goals cases hd
  all_goals
    and_intros
    rw [q_calls hp]
    and_intros
    refine (pick_nat s xs.length hs (by omega) (by omega)).mono fun r ⟨v, s', e, h2, h3⟩ => ?_
    subst e
    and_intros
    rw [atI_lt (show v < xs.length by omega)]
    and_intros
    exact ⟨_, List.getElem_mem _, s', rfl, h3⟩
end Vm


set_option Elab.async false
set_option linter.all false
set_option maxRecDepth 100000
set_option maxHeartbeats 4000000
/-! Vm, part 30a: helpers for stepping. -/
namespace Vm
open PySem PySem.Spec PyProof.Rows L2

theorem idx_list (xs : List PyData) (i : Int) : idxSem (.d (.list xs)) (.d (.int i)) = (atI xs i).map .d := rfl
theorem idx_tup (xs : List PyData) (i : Int) : idxSem (.d (.tuple xs)) (.d (.int i)) = (atI xs i).map .d := rfl
theorem lc_pureM {α : Type} {f : PyData → St → Option (Option O × St)} {own : List Nat} {st : St} (h : α → PyData) (g : α → Option O) : ∀ (xs : List α), (∀ x ∈ xs, Ex (x := f (h x) st) fun r => r.1 = g x ∧ clr own r.2 = st) → lcLoop f own (xs.map h) st = some (xs.filterMap g, st)
  | [], _ => rfl
  | x :: xs, k => by
    obtain ⟨⟨o, s⟩, e, e1, e2⟩ := k x List.mem_cons_self
    have e1 : o = g x := e1
    have e2 : clr own s = st := e2
    rw [List.map_cons]
    unfold lcLoop
    rw [e, Option.bind_some]
    show (lcLoop f own (xs.map h) (clr own s)).map _ = _
    rw [e2, lc_pureM h g xs fun y hy => k y (List.mem_cons_of_mem _ hy), Option.map_some, List.filterMap_cons]
    subst e1
    cases g x <;> rfl
theorem datAll_d {α : Type} (f : α → PyData) : ∀ xs : List α, datAll (xs.map fun x => O.d (f x)) = some (xs.map f)
  | [] => rfl
  | x :: xs => by
    show ((datAll (xs.map fun x => O.d (f x))).map (f x :: ·)) = _
    rw [datAll_d f xs]
    rfl
theorem eqD_nil (xs : List PyData) : eqD (.list xs) (.list []) = some xs.isEmpty := by
  unfold eqD
  cases xs with
  | nil => rfl
  | cons x xs =>
    split
    · rfl
    · rfl
end Vm


set_option Elab.async false
set_option linter.all false
set_option maxRecDepth 100000
set_option maxHeartbeats 4000000
/-! Vm, part 36: loops over lists of plain things, by what was gone through. -/
namespace Vm
open PySem PySem.Spec PyProof.Rows L2

theorem for_pre {α : Type} (h : α → PyData) {f : PyData → St → Option Out} {Q : Out → Prop} (J : List α → St → Prop) (xs : List α) (s : St) (h0 : J [] s)
    (hx : ∀ d x r s, xs = d ++ x :: r → J d s → Ex (x := f (h x) s) fun o => match o with
      | .nx s' => J (d ++ [x]) s'
      | .cnt s' => J (d ++ [x]) s'
      | .brk s' => Q (.nx s')
      | .ret o s' => Q (.ret o s')) (hn : ∀ s, J xs s → Q (.nx s)) : Ex (x := forLoop f (xs.map h) s) Q := by
  have go : ∀ (r d : List α) (s : St), xs = d ++ r → J d s → Ex (x := forLoop f (r.map h) s) Q := by
    intro r
    induction r with
    | nil =>
      intro d s e j
      rw [List.append_nil] at e
      subst e
      rw [List.map_nil]
      unfold forLoop
      rw [ex_some]
      exact hn s j
    | cons x r ih =>
      intro d s e j
      obtain ⟨o, e1, k⟩ := hx d x r s e j
      rw [List.map_cons]
      unfold forLoop
      rw [e1]
      have e2 : xs = (d ++ [x]) ++ r := by rw [List.append_assoc]; exact e
      cases o with
      | nx s' => exact ih (d ++ [x]) s' e2 k
      | cnt s' => exact ih (d ++ [x]) s' e2 k
      | brk s' => exact .of rfl k
      | ret o s' => exact .of rfl k
  exact go xs [] s rfl h0
theorem lc_pre {α : Type} (h : α → PyData) {f : PyData → St → Option (Option O × St)} {own : List Nat} {Q : List O × St → Prop} (J : List α → List O → St → Prop) (xs : List α) (s : St) (h0 : J [] [] s)
    (hx : ∀ d x r os s, xs = d ++ x :: r → J d os s → Ex (x := f (h x) s) fun o => J (d ++ [x]) (os ++ o.1.toList) (clr own o.2)) (hn : ∀ os s, J xs os s → Q (os, s)) : Ex (x := lcLoop f own (xs.map h) s) Q := by
  have go : ∀ (r d : List α) (os : List O) (s : St), xs = d ++ r → J d os s → Ex (x := lcLoop f own (r.map h) s) fun q => Q (os ++ q.1, q.2) := by
    intro r
    induction r with
    | nil =>
      intro d os s e j
      rw [List.append_nil] at e
      subst e
      rw [List.map_nil]
      unfold lcLoop
      rw [ex_some, List.append_nil]
      exact hn os s j
    | cons x r ih =>
      intro d os s e j
      obtain ⟨⟨o, s1⟩, e1, k⟩ := hx d x r os s e j
      rw [List.map_cons]
      unfold lcLoop
      rw [e1, Option.bind_some]
      have e2 : xs = (d ++ [x]) ++ r := by rw [List.append_assoc]; exact e
      show Ex (x := (lcLoop f own (r.map h) (clr own s1)).map _) _
      rw [ex_map]
      refine (ih (d ++ [x]) _ _ e2 k).mono fun q hq => ?_
      rw [List.append_assoc] at hq
      exact hq
  have := go xs [] [] s rfl h0
  exact this
end Vm


set_option Elab.async false
set_option linter.all false
set_option maxRecDepth 100000
set_option maxHeartbeats 4000000
/-! Vm, part 37: values that may be anything: what can be shown, what type they are. -/
namespace Vm
open PySem PySem.Spec PyProof.Rows L2

mutual
/-- made of None, bools, whole numbers below B, texts, lists, tuples, empty dicts -/
def okV (B : Nat) : PyData → Bool
  | .none => true
  | .bool _ => true
  | .int i => decide (i.natAbs < B)
  | .str x => PyData.strOk x && PyData.strOk (reprText x)
  | .list xs => okVs B xs
  | .tuple xs => okVs B xs
  | .dict kvs => kvs.isEmpty
def okVs (B : Nat) : List PyData → Bool
  | [] => true
  | x :: xs => okV B x && okVs B xs
end
theorem okVs_iff (B : Nat) : ∀ xs : List PyData, okVs B xs = true ↔ ∀ x ∈ xs, okV B x = true
  | [] => by simp [okVs]
  | x :: xs => by
    rw [okVs, Bool.and_eq_true, okVs_iff B xs]
    simp
mutual
theorem okV.mono {B C : Nat} (h : B ≤ C) : ∀ d : PyData, okV B d = true → okV C d = true
  | .none, _ => rfl
  | .bool _, _ => rfl
  | .int i, k => by
    simp only [okV, decide_eq_true_eq] at k ⊢
    omega
  | .str x, k => by simpa only [okV] using k
  | .list xs, k => by simp only [okV] at k ⊢; exact okVs.mono h xs k
  | .tuple xs, k => by simp only [okV] at k ⊢; exact okVs.mono h xs k
  | .dict _, k => by simpa only [okV] using k
theorem okVs.mono {B C : Nat} (h : B ≤ C) : ∀ xs : List PyData, okVs B xs = true → okVs C xs = true
  | [], _ => rfl
  | x :: xs, k => by
    rw [okVs, Bool.and_eq_true] at k ⊢
    exact ⟨okV.mono h x k.1, okVs.mono h xs k.2⟩
end
theorem shown_int_le38 {i : Int} (h : i.natAbs < 10 ^ 38) : (PyData.shown (.int i)).length ≤ 40 := by
  have e := int_text_length_le10 (k := 38) (by decide) h
  show (Str.ofString (toString i)).length ≤ 40
  rw [PySem.ofString_length]; omega
mutual
theorem okV.short : ∀ d : PyData, okV (10 ^ 38) d = true → d.leavesShort 40 = true
  | .none, _ => rfl
  | .bool _, _ => rfl
  | .int i, k => by
    simp only [okV, decide_eq_true_eq] at k
    simp only [PyData.leavesShort, decide_eq_true_eq]
    exact shown_int_le38 k
  | .str x, k => PyData.leavesShort_of_canLay0 40 (.str x) (by rw [okV, Bool.and_eq_true] at k; simpa only [PyData.canLay0] using k.1) (by simp only [PyData.intsShort])
  | .list xs, k => by simp only [okV] at k; simp only [PyData.leavesShort]; exact okVs.short xs k
  | .tuple xs, k => by simp only [okV] at k; simp only [PyData.leavesShort]; exact okVs.short xs k
  | .dict [], _ => rfl
  | .dict (_ :: _), k => by simp [okV] at k
theorem okVs.short : ∀ xs : List PyData, okVs (10 ^ 38) xs = true → PyData.leavesShortAll 40 xs = true
  | [], _ => rfl
  | x :: xs, k => by
    rw [okVs, Bool.and_eq_true] at k
    rw [PyData.leavesShortAll, Bool.and_eq_true]
    exact ⟨okV.short x k.1, okVs.short xs k.2⟩
end
mutual
theorem okV.showable : ∀ d : PyData, okV (10 ^ 38) d = true → d.showable = true
  | .none, _ => rfl
  | .bool _, _ => rfl
  | .int i, k => by
    simp only [okV, decide_eq_true_eq] at k
    simp only [PyData.showable, decide_eq_true_eq]
    by_cases h : i.natAbs = 0
    · rw [h]; decide
    · exact Nat.lt_of_lt_of_le ((Nat.log2_lt h).2 (Nat.lt_of_lt_of_le k (show 10 ^ 38 ≤ 2 ^ 130 by decide))) (by decide)
  | .str _, _ => rfl
  | .list xs, k => by simp only [okV] at k; simp only [PyData.showable]; exact okVs.showable xs k
  | .tuple xs, k => by simp only [okV] at k; simp only [PyData.showable]; exact okVs.showable xs k
  | .dict [], _ => rfl
  | .dict (_ :: _), k => by simp [okV] at k
theorem okVs.showable : ∀ xs : List PyData, okVs (10 ^ 38) xs = true → PyData.showableAll xs = true
  | [], _ => rfl
  | x :: xs, k => by
    rw [okVs, Bool.and_eq_true] at k
    rw [PyData.showableAll, Bool.and_eq_true]
    exact ⟨okV.showable x k.1, okVs.showable xs k.2⟩
end
/-- it can be shown -/
structure Fine (x : PyData) (d b : Nat) : Prop where
  ok : okV (10 ^ 38) x = true
  dep : x.depth ≤ d
  blk : x.bulk ≤ b
  nod : x.hasDict = false ∨ nolst x = true
theorem Fine.mono {x : PyData} {d b d' b' : Nat} (h : Fine x d b) (hd : d ≤ d') (hb : b ≤ b') : Fine x d' b' := ⟨h.ok, Nat.le_trans h.dep hd, Nat.le_trans h.blk hb, h.nod⟩
theorem Fine.repr {x : PyData} {d b : Nat} (h : Fine x d b) (hd : d ≤ 40) (hb : b ≤ 390000) : primSem .repr [.d x] = some (.d (.str x.shown)) := by
  have h1 := PyData.shown_le_bulk 40 (by decide) x (okV.short x h.ok)
  have h2 : x.shown.length ≤ sizeLine := by
    have := h.blk
    have : (40 + 2) * x.bulk ≤ 42 * 390000 := Nat.mul_le_mul (by decide) (by omega)
    rw [sizeLine_eq]
    omega
  show (if x.showable && decide (x.depth ≤ 40) && decide (x.shown.length ≤ sizeLine) && (!x.hasDict || nolst x) then some (O.d (.str x.shown)) else none) = _
  rw [if_pos]
  simp only [Bool.and_eq_true, decide_eq_true_eq, Bool.or_eq_true, Bool.not_eq_true']
  exact ⟨⟨⟨okV.showable x h.ok, Nat.le_trans h.dep hd⟩, h2⟩, h.nod⟩
/-! lists of such things -/
theorem depthAll_le {c : Nat} : ∀ xs : List PyData, (∀ x ∈ xs, x.depth ≤ c) → PyData.depthAll xs ≤ c
  | [], _ => by simp [PyData.depthAll]
  | x :: xs, h => by
    rw [PyData.depthAll]
    exact Nat.max_le.2 ⟨h x List.mem_cons_self, depthAll_le xs fun y hy => h y (List.mem_cons_of_mem _ hy)⟩
theorem depthAll_mem {x : PyData} : ∀ {xs : List PyData}, x ∈ xs → x.depth ≤ PyData.depthAll xs
  | y :: ys, h => by
    rw [PyData.depthAll]
    rcases List.mem_cons.1 h with rfl | h
    · exact Nat.le_max_left _ _
    · exact Nat.le_trans (depthAll_mem h) (Nat.le_max_right _ _)
theorem bulkAll_le {c : Nat} : ∀ xs : List PyData, (∀ x ∈ xs, x.bulk ≤ c) → PyData.bulkAll xs ≤ xs.length * (c + 1)
  | [], _ => by simp [PyData.bulkAll]
  | x :: xs, h => by
    rw [PyData.bulkAll]
    have h1 := h x List.mem_cons_self
    have h2 := bulkAll_le xs fun y hy => h y (List.mem_cons_of_mem _ hy)
    rw [List.length_cons, Nat.add_mul]
    omega
theorem bulkAll_append : ∀ xs ys : List PyData, PyData.bulkAll (xs ++ ys) = PyData.bulkAll xs + PyData.bulkAll ys
  | [], ys => by simp [PyData.bulkAll]
  | x :: xs, ys => by
    rw [List.cons_append, PyData.bulkAll, PyData.bulkAll, bulkAll_append xs ys]
    omega
theorem bulkAll_len : ∀ xs : List PyData, xs.length ≤ PyData.bulkAll xs
  | [] => Nat.zero_le _
  | x :: xs => by
    rw [PyData.bulkAll, List.length_cons]
    have := bulkAll_len xs
    omega
theorem bulkAll_mem {x : PyData} : ∀ {xs : List PyData}, x ∈ xs → x.bulk + 1 ≤ PyData.bulkAll xs
  | y :: ys, h => by
    rw [PyData.bulkAll]
    rcases List.mem_cons.1 h with rfl | h
    · omega
    · have := bulkAll_mem h; omega
theorem hasDictAll_iff : ∀ xs : List PyData, PyData.hasDictAll xs = false ↔ ∀ x ∈ xs, x.hasDict = false
  | [] => by simp [PyData.hasDictAll]
  | x :: xs => by
    rw [PyData.hasDictAll, Bool.or_eq_false_iff, hasDictAll_iff xs]
    simp
theorem nolsts_iff : ∀ xs : List PyData, nolsts xs = true ↔ ∀ x ∈ xs, nolst x = true
  | [] => by simp [nolsts]
  | x :: xs => by
    rw [nolsts, Bool.and_eq_true, nolsts_iff xs]
    simp
/-- plain: no dict in it -/
structure Pl (x : PyData) (d b : Nat) : Prop where
  ok : okV (10 ^ 38) x = true
  dep : x.depth ≤ d
  blk : x.bulk ≤ b
  nod : x.hasDict = false
theorem Pl.fine {x : PyData} {d b : Nat} (h : Pl x d b) : Fine x d b := ⟨h.ok, h.dep, h.blk, .inl h.nod⟩
theorem Pl.mono {x : PyData} {d b d' b' : Nat} (h : Pl x d b) (hd : d ≤ d') (hb : b ≤ b') : Pl x d' b' := ⟨h.ok, Nat.le_trans h.dep hd, Nat.le_trans h.blk hb, h.nod⟩
theorem Pl.int {i : Int} (h : i.natAbs < 10 ^ 38) : Pl (.int i) 0 0 := ⟨by rw [okV]; exact decide_eq_true h, by rw [PyData.depth]; exact Nat.le_refl _, by rw [PyData.bulk]; exact Nat.le_refl _, by rw [PyData.hasDict]⟩
theorem Pl.bool (b : Bool) : Pl (.bool b) 0 0 := ⟨by rw [okV], by rw [PyData.depth]; exact Nat.le_refl _, by rw [PyData.bulk]; exact Nat.le_refl _, by rw [PyData.hasDict]⟩
theorem Pl.none : Pl .none 0 0 := ⟨by rw [okV], by rw [PyData.depth]; exact Nat.le_refl _, by rw [PyData.bulk]; exact Nat.le_refl _, by rw [PyData.hasDict]⟩
theorem Pl.list {xs : List PyData} {d b m : Nat} (h : ∀ x ∈ xs, Pl x d b) (hl : xs.length ≤ m) : Pl (.list xs) (d + 1) (m * (b + 1)) := by
  refine ⟨?_, ?_, ?_, ?_⟩
  · rw [okV, okVs_iff]; exact fun x hx => (h x hx).ok
  · rw [PyData.depth]; exact Nat.succ_le_succ (depthAll_le xs fun x hx => (h x hx).dep)
  · rw [PyData.bulk]
    exact Nat.le_trans (bulkAll_le xs fun x hx => (h x hx).blk) (Nat.mul_le_mul_right _ hl)
  · rw [PyData.hasDict, hasDictAll_iff]; exact fun x hx => (h x hx).nod
theorem Pl.tup {xs : List PyData} {d b m : Nat} (h : ∀ x ∈ xs, Pl x d b) (hl : xs.length ≤ m) : Pl (.tuple xs) (d + 1) (m * (b + 1)) := by
  refine ⟨?_, ?_, ?_, ?_⟩
  · rw [okV, okVs_iff]; exact fun x hx => (h x hx).ok
  · rw [PyData.depth]; exact Nat.succ_le_succ (depthAll_le xs fun x hx => (h x hx).dep)
  · rw [PyData.bulk]
    exact Nat.le_trans (bulkAll_le xs fun x hx => (h x hx).blk) (Nat.mul_le_mul_right _ hl)
  · rw [PyData.hasDict, hasDictAll_iff]; exact fun x hx => (h x hx).nod
theorem eqD_str (x y : Str) (hx : PyData.strOk x = true) (hy : PyData.strOk y = true) : eqD (.str x) (.str y) = some (x == y) := by
  unfold eqD
  rw [show SeqAt.shaped (.str x) = true by unfold SeqAt.shaped; rw [PyData.canLay0, hx, PyData.depth]; rfl, show SeqAt.shaped (.str y) = true by unfold SeqAt.shaped; rw [PyData.canLay0, hy, PyData.depth]; rfl]
  show some (PyData.eqv (.str x) (.str y)) = _
  rw [PyData.eqv]
/-! types -/
theorem kb_nt : kitB "NoneType" "tuple" = some false := by decide +kernel
theorem kb_bt : kitB "bool" "tuple" = some false := by decide +kernel
theorem kb_it : kitB "int" "tuple" = some false := by decide +kernel
theorem kb_st : kitB "str" "tuple" = some false := by decide +kernel
theorem kb_lt : kitB "list" "tuple" = some false := by decide +kernel
theorem kb_tt : kitB "tuple" "tuple" = some true := by decide +kernel
theorem kb_dt : kitB "dict" "tuple" = some false := by decide +kernel
theorem kb_ni : kitB "NoneType" "int" = some false := by decide +kernel
theorem kb_bi : kitB "bool" "int" = some true := by decide +kernel
theorem kb_ii : kitB "int" "int" = some true := by decide +kernel
theorem kb_si : kitB "str" "int" = some false := by decide +kernel
theorem kb_li : kitB "list" "int" = some false := by decide +kernel
theorem kb_ti : kitB "tuple" "int" = some false := by decide +kernel
theorem kb_di : kitB "dict" "int" = some false := by decide +kernel
theorem kb_nb : kitB "NoneType" "bool" = some false := by decide +kernel
theorem kb_bb : kitB "bool" "bool" = some true := by decide +kernel
theorem kb_ib : kitB "int" "bool" = some false := by decide +kernel
theorem kb_sb : kitB "str" "bool" = some false := by decide +kernel
theorem kb_lb : kitB "list" "bool" = some false := by decide +kernel
theorem kb_tb : kitB "tuple" "bool" = some false := by decide +kernel
theorem kb_db : kitB "dict" "bool" = some false := by decide +kernel
def isTup : PyData → Bool
  | .tuple _ => true
  | _ => false
def isZ : PyData → Bool
  | .int _ => true
  | _ => false
def isBl : PyData → Bool
  | .bool _ => true
  | _ => false
theorem isi_of {T t : String} {u : Vw} {b : Bool} (ht : tyOf u = some t) (hb : kitB t T = some b) : primSem (.isi T) [u] = some (.d (.bool b)) := by
  show ((tyOf u).bind fun t => (kitB t T).map fun b => O.d (.bool b)) = _
  rw [ht, Option.bind_some, hb, Option.map_some]
theorem isi_tup {B : Nat} {x : PyData} (h : okV B x = true) : primSem (.isi "tuple") [.d x] = some (.d (.bool (isTup x))) := by
  cases x with
  | none => exact isi_of rfl kb_nt
  | bool b => exact isi_of rfl kb_bt
  | int i => exact isi_of rfl kb_it
  | str s => exact isi_of rfl kb_st
  | list xs => exact isi_of rfl kb_lt
  | tuple xs => exact isi_of rfl kb_tt
  | dict kvs =>
    cases kvs with
    | nil => exact isi_of rfl kb_dt
    | cons => simp [okV] at h
theorem isi_int {B : Nat} {x : PyData} (h : okV B x = true) : primSem (.isi "int") [.d x] = some (.d (.bool (isZ x || isBl x))) := by
  cases x with
  | none => exact isi_of rfl kb_ni
  | bool b => exact isi_of rfl kb_bi
  | int i => exact isi_of rfl kb_ii
  | str s => exact isi_of rfl kb_si
  | list xs => exact isi_of rfl kb_li
  | tuple xs => exact isi_of rfl kb_ti
  | dict kvs =>
    cases kvs with
    | nil => exact isi_of rfl kb_di
    | cons => simp [okV] at h
theorem isi_bl {B : Nat} {x : PyData} (h : okV B x = true) : primSem (.isi "bool") [.d x] = some (.d (.bool (isBl x))) := by
  cases x with
  | none => exact isi_of rfl kb_nb
  | bool b => exact isi_of rfl kb_bb
  | int i => exact isi_of rfl kb_ib
  | str s => exact isi_of rfl kb_sb
  | list xs => exact isi_of rfl kb_lb
  | tuple xs => exact isi_of rfl kb_tb
  | dict kvs =>
    cases kvs with
    | nil => exact isi_of rfl kb_db
    | cons => simp [okV] at h
theorem boolsOf_map {α : Type} (f : α → Bool) : ∀ xs : List α, boolsOf (xs.map fun x => .bool (f x)) = some (xs.map f)
  | [] => rfl
  | x :: xs => by
    show (boolsOf (xs.map fun x => PyData.bool (f x))).map _ = _
    rw [boolsOf_map f xs]
    rfl
theorem intsOf_map {α : Type} (f : α → Int) : ∀ xs : List α, intsOf (xs.map fun x => .int (f x)) = some (xs.map f)
  | [] => rfl
  | x :: xs => by
    show (intsOf (xs.map fun x => PyData.int (f x))).map _ = _
    rw [intsOf_map f xs]
    rfl
end Vm


set_option Elab.async false
set_option linter.all false
set_option maxRecDepth 100000
set_option maxHeartbeats 4000000
/-! Vm, part 38: built-in functions, case by case. -/
namespace Vm
open PySem PySem.Spec PyProof.Rows L2

theorem cmp_eqNil (xs : List PyData) : cmpSem .eq (.d (.list xs)) (.d (.list [])) = some xs.isEmpty := eqD_nil xs
theorem cmp_neNil (xs : List PyData) : cmpSem .ne (.d (.list xs)) (.d (.list [])) = some (!xs.isEmpty) := by
  show (eqD (.list xs) (.list [])).map (!·) = _
  rw [eqD_nil]; rfl
section
variable (xs : List PyData) (x : PyData) (i j : Int) (b c : Bool) (t : Bool) (kvs : KVs)
theorem pr_lenL : primSem .len [.d (.list xs)] = some (.d (.int xs.length)) := rfl
theorem pr_lenH : primSem .len [.h (.list xs)] = some (.d (.int xs.length)) := rfl
theorem pr_lenT : primSem .len [.d (.tuple xs)] = some (.d (.int xs.length)) := rfl
theorem pr_lenD : primSem .len [.dct t kvs] = some (.d (.int kvs.length)) := rfl
theorem pr_abs : primSem .abs [.d (.int i)] = some (.d (.int (if i < 0 then -i else i))) := rfl
theorem pr_intI : primSem .int [.d (.int i)] = some (.d (.int i)) := rfl
theorem pr_intB : primSem .int [.d (.bool b)] = some (.d (.int (if b then 1 else 0))) := rfl
theorem pr_all : primSem .all [.d (.list xs)] = (boolsOf xs).map fun bs => .d (.bool (bs.all id)) := rfl
theorem pr_any : primSem .any [.d (.list xs)] = (boolsOf xs).map fun bs => .d (.bool (bs.any id)) := rfl
theorem pr_sum : primSem .sum [.d (.list xs)] = (intsOf xs).map fun ns => .d (.int ns.sum) := rfl
theorem pr_max : primSem .max [.d (.list xs)] = (intsOf xs).bind fun ns => ns.max?.map fun m => .d (.int m) := rfl
theorem pr_min : primSem .min [.d (.list xs)] = (intsOf xs).bind fun ns => ns.min?.map fun m => .d (.int m) := rfl
theorem pr_max2 : primSem .max2 [.d (.int i), .d (.int j)] = some (.d (.int (if j > i then j else i))) := rfl
theorem pr_min2 : primSem .min2 [.d (.int i), .d (.int j)] = some (.d (.int (if j < i then j else i))) := rfl
theorem pr_tupL : primSem .tuple [.d (.list xs)] = some (if noKey xs then .pt xs else .d (.tuple xs)) := rfl
theorem pr_tupT : primSem .tuple [.d (.tuple xs)] = some (.d (.tuple xs)) := rfl
theorem pr_listL : primSem .list [.d (.list xs)] = some (.lst xs) := rfl
theorem pr_listT : primSem .list [.d (.tuple xs)] = some (.lst xs) := rfl
theorem pr_sortL : primSem .sorted [.d (.list xs)] = if sortable xs then some (.lst (sortD xs)) else none := rfl
theorem pr_sortD : primSem .sorted [.dct t kvs] = if sortable (kvs.map fun p => p.1.dat) then some (.lst (sortD (kvs.map fun p => p.1.dat))) else none := rfl
theorem is_bb : isSem (.d (.bool b)) (.d (.bool c)) = some (b == c) := rfl
theorem cmp_isB : cmpSem .is (.d (.bool b)) (.d (.bool c)) = some (b == c) := rfl
theorem cmp_isnB : cmpSem .isnot (.d (.bool b)) (.d (.bool c)) = some (!(b == c)) := rfl
theorem tru_i : truSem (.d (.int i)) = some (i != 0) := rfl
theorem add_L (ys : List PyData) : binSem .add (.d (.list xs)) (.d (.list ys)) = if xs.length + ys.length ≤ sizeLine then some (.lst (xs ++ ys)) else none := rfl
theorem add_T (ys : List PyData) : binSem .add (.d (.tuple xs)) (.d (.tuple ys)) = if xs.length + ys.length ≤ sizeLine then some (.d (.tuple (xs ++ ys))) else none := rfl
theorem slc_L (lo hi : Option Int) : slcSem (.d (.list xs)) lo hi = some (.lst (cutD xs lo hi)) := rfl
theorem slc_T (lo hi : Option Int) : slcSem (.d (.tuple xs)) lo hi = some (.d (.tuple (cutD xs lo hi))) := rfl
theorem rev_L : revSem (.d (.list xs)) = some (.lst xs.reverse) := rfl
theorem rev_T : revSem (.d (.tuple xs)) = some (.d (.tuple xs.reverse)) := rfl
theorem seqP_pt (st : St) : seqP st (.pt xs) = some xs := rfl
theorem seqP_lst (st : St) : seqP st (.lst xs) = some xs := rfl
theorem seqP_dl (st : St) : seqP st (.d (.list xs)) = some xs := rfl
end
theorem ne_same {s : Str} (h : PyData.strOk s = true) : cmpSem .ne (.d (.str s)) (.d (.str s)) = some false := by
  show (eqD (.str s) (.str s)).map (!·) = _
  rw [eqD_str s s h h]
  show some (!(s == s)) = _
  rw [beq_self_eq_true]
  rfl
theorem if_pt {c : Bool} {xs : List PyData} : (if c then O.pt xs else O.d (.tuple xs)).dat = some (.tuple xs) := by cases c <;> rfl
/-- a tuple, whichever way it is held -/
def tupO (xs : List PyData) : O := if noKey xs then .pt xs else .d (.tuple xs)
theorem tupO_dat (xs : List PyData) : (tupO xs).dat = some (.tuple xs) := by unfold tupO; split <;> rfl
theorem tupO_frz (xs : List PyData) : (tupO xs).frz = some (tupO xs) := by unfold tupO; split <;> rfl
theorem tupO_slot (xs : List PyData) : (tupO xs).slot = true := by unfold tupO; split <;> rfl
theorem tupO_free (xs : List PyData) : (tupO xs).free = true := by unfold tupO; split <;> rfl
theorem tupO_vw (st : St) (xs : List PyData) : vw st (tupO xs) = some (.d (.tuple xs)) := by unfold tupO; split <;> rfl
theorem pr_tupL' (xs : List PyData) : primSem .tuple [.d (.list xs)] = some (tupO xs) := rfl
theorem tupO_or (xs : List PyData) : tupO xs = .pt xs ∨ tupO xs = .d (.tuple xs) := by unfold tupO; cases noKey xs <;> simp
theorem tupO_rdV {st : St} {i : Nat} {xs : List PyData} (h : st.ρ[i]? = some (some (tupO xs))) : rdVar st i = some (tupO xs, st.set i (some (tupO xs))) := by
  unfold rdVar; rw [h]; rcases tupO_or xs with e | e <;> rw [e] <;> rfl
theorem tupO_rdB {st : St} {i : Nat} {xs : List PyData} (h : st.ρ[i]? = some (some (tupO xs))) : rdBor st i = some (tupO xs, st) := by
  unfold rdBor; rw [h]; rcases tupO_or xs with e | e <;> rw [e]
theorem tupO_rdM {st : St} {i : Nat} {xs : List PyData} (h : st.ρ[i]? = some (some (tupO xs))) : rdMov st i = some (tupO xs, st.set i none) := by
  unfold rdMov; rw [h]; rcases tupO_or xs with e | e <;> rw [e]
section
variable (xs : List PyData) (x : PyData) (rows : List (List PyData)) (t : Bool) (kvs : KVs)
theorem frz_d : (O.d x).frz = some (.d x) := rfl
theorem frz_pt : (O.pt xs).frz = some (.pt xs) := rfl
theorem frz_lst : (O.lst xs).frz = some (.d (.list xs)) := rfl
theorem frz_mat : (O.mat rows).frz = some (.d (.list (rows.map .list))) := rfl
theorem frz_dct : (O.dct t kvs).frz = some (.fdct t kvs) := rfl
theorem frz_fdct : (O.fdct t kvs).frz = some (.fdct t kvs) := rfl
theorem frz_src : O.src.frz = some .src := rfl
theorem dat_d : (O.d x).dat = some x := rfl
theorem dat_pt : (O.pt xs).dat = some (.tuple xs) := rfl
theorem dat_lst : (O.lst xs).dat = some (.list xs) := rfl
theorem dat_mat : (O.mat rows).dat = some (.list (rows.map .list)) := rfl
theorem dat_dct0 : (O.dct false []).dat = some (.dict []) := rfl
theorem slot_d : (O.d x).slot = true := rfl
theorem slot_pt : (O.pt xs).slot = true := rfl
theorem slot_lst : (O.lst xs).slot = true := rfl
theorem slot_mat : (O.mat rows).slot = true := rfl
theorem slot_dct : (O.dct t kvs).slot = true := rfl
theorem slot_fdct : (O.fdct t kvs).slot = true := rfl
theorem free_d : (O.d x).free = true := rfl
theorem free_pt : (O.pt xs).free = true := rfl
theorem free_lst : (O.lst xs).free = true := rfl
theorem free_dct : (O.dct t kvs).free = true := rfl
theorem free_fdct : (O.fdct t kvs).free = true := rfl
end
theorem at_c0 {α : Type} (x : α) (xs : List α) : atI (x :: xs) 0 = some x := atI_nat (j := 0) rfl
theorem at_c1 {α : Type} (x y : α) (xs : List α) : atI (x :: y :: xs) 1 = some y := atI_nat (j := 1) rfl
theorem for_pre0 {f : PyData → Vm.St → Option Out} {Q : Out → Prop} (J : List PyData → Vm.St → Prop) (xs : List PyData) (s : Vm.St) (h0 : J [] s)
    (hx : ∀ d x r s, xs = d ++ x :: r → J d s → Ex (x := f x s) fun o => match o with
      | .nx s' => J (d ++ [x]) s'
      | .cnt s' => J (d ++ [x]) s'
      | .brk s' => Q (.nx s')
      | .ret o s' => Q (.ret o s')) (hn : ∀ s, J xs s → Q (.nx s)) : Ex (x := forLoop f xs s) Q := by
  have := for_pre (fun x : PyData => x) J xs s h0 hx hn
  rwa [List.map_id'] at this
theorem sl_1 : (1 ≤ sizeLine) = True := eq_true (by rw [sizeLine_eq]; decide)
theorem sl_2 : (2 ≤ sizeLine) = True := eq_true (by rw [sizeLine_eq]; decide)
theorem sl_3 : (3 ≤ sizeLine) = True := eq_true (by rw [sizeLine_eq]; decide)
theorem sl_4 : (4 ≤ sizeLine) = True := eq_true (by rw [sizeLine_eq]; decide)
theorem sl_5 : (5 ≤ sizeLine) = True := eq_true (by rw [sizeLine_eq]; decide)
theorem sl_6 : (6 ≤ sizeLine) = True := eq_true (by rw [sizeLine_eq]; decide)
theorem sl_7 : (7 ≤ sizeLine) = True := eq_true (by rw [sizeLine_eq]; decide)
theorem sl_8 : (8 ≤ sizeLine) = True := eq_true (by rw [sizeLine_eq]; decide)
theorem sl_9 : (9 ≤ sizeLine) = True := eq_true (by rw [sizeLine_eq]; decide)
theorem sl_10 : (10 ≤ sizeLine) = True := eq_true (by rw [sizeLine_eq]; decide)
theorem sl_11 : (11 ≤ sizeLine) = True := eq_true (by rw [sizeLine_eq]; decide)
theorem sl_12 : (12 ≤ sizeLine) = True := eq_true (by rw [sizeLine_eq]; decide)
theorem sl_13 : (13 ≤ sizeLine) = True := eq_true (by rw [sizeLine_eq]; decide)
theorem sl_14 : (14 ≤ sizeLine) = True := eq_true (by rw [sizeLine_eq]; decide)
theorem sl_15 : (15 ≤ sizeLine) = True := eq_true (by rw [sizeLine_eq]; decide)
theorem sl_16 : (16 ≤ sizeLine) = True := eq_true (by rw [sizeLine_eq]; decide)
theorem sl_17 : (17 ≤ sizeLine) = True := eq_true (by rw [sizeLine_eq]; decide)
theorem sl_18 : (18 ≤ sizeLine) = True := eq_true (by rw [sizeLine_eq]; decide)
theorem sl_19 : (19 ≤ sizeLine) = True := eq_true (by rw [sizeLine_eq]; decide)
theorem sl_20 : (20 ≤ sizeLine) = True := eq_true (by rw [sizeLine_eq]; decide)
theorem sl_21 : (21 ≤ sizeLine) = True := eq_true (by rw [sizeLine_eq]; decide)
theorem sl_22 : (22 ≤ sizeLine) = True := eq_true (by rw [sizeLine_eq]; decide)
theorem sl_23 : (23 ≤ sizeLine) = True := eq_true (by rw [sizeLine_eq]; decide)
theorem sl_24 : (24 ≤ sizeLine) = True := eq_true (by rw [sizeLine_eq]; decide)
theorem sl_25 : (25 ≤ sizeLine) = True := eq_true (by rw [sizeLine_eq]; decide)
theorem sl_26 : (26 ≤ sizeLine) = True := eq_true (by rw [sizeLine_eq]; decide)
theorem sl_27 : (27 ≤ sizeLine) = True := eq_true (by rw [sizeLine_eq]; decide)
theorem sl_28 : (28 ≤ sizeLine) = True := eq_true (by rw [sizeLine_eq]; decide)
theorem sl_29 : (29 ≤ sizeLine) = True := eq_true (by rw [sizeLine_eq]; decide)
theorem sl_30 : (30 ≤ sizeLine) = True := eq_true (by rw [sizeLine_eq]; decide)
theorem sl_31 : (31 ≤ sizeLine) = True := eq_true (by rw [sizeLine_eq]; decide)
theorem sl_32 : (32 ≤ sizeLine) = True := eq_true (by rw [sizeLine_eq]; decide)
theorem sl_33 : (33 ≤ sizeLine) = True := eq_true (by rw [sizeLine_eq]; decide)
theorem sl_34 : (34 ≤ sizeLine) = True := eq_true (by rw [sizeLine_eq]; decide)
theorem sl_35 : (35 ≤ sizeLine) = True := eq_true (by rw [sizeLine_eq]; decide)
theorem sl_36 : (36 ≤ sizeLine) = True := eq_true (by rw [sizeLine_eq]; decide)
theorem sl_37 : (37 ≤ sizeLine) = True := eq_true (by rw [sizeLine_eq]; decide)
theorem sl_38 : (38 ≤ sizeLine) = True := eq_true (by rw [sizeLine_eq]; decide)
theorem sl_39 : (39 ≤ sizeLine) = True := eq_true (by rw [sizeLine_eq]; decide)
theorem sl_40 : (40 ≤ sizeLine) = True := eq_true (by rw [sizeLine_eq]; decide)
end Vm


set_option Elab.async false
set_option linter.all false
set_option maxRecDepth 100000
set_option maxHeartbeats 4000000
/-! Vm, part 39: slices. -/
namespace Vm
open PySem PySem.Spec PyProof.Rows L2

theorem cut_to (xs : List PyData) (k : Nat) : cutD xs none (some (k : Int)) = xs.take k := by
  unfold cutD
  rw [HT.sIx_none, HT.sIx_nat, List.drop_zero, Nat.sub_zero]
  by_cases h : k ≤ xs.length
  · rw [Nat.min_eq_left h]
  · rw [Nat.min_eq_right (by omega), List.take_of_length_le (Nat.le_refl _), List.take_of_length_le (by omega)]
theorem cut_from (xs : List PyData) (k : Nat) : cutD xs (some (k : Int)) none = xs.drop k := by
  unfold cutD
  rw [HT.sIx_none, HT.sIx_nat]
  by_cases h : k ≤ xs.length
  · rw [Nat.min_eq_left h]
    exact List.take_of_length_le (by rw [List.length_drop]; exact Nat.le_refl _)
  · rw [Nat.min_eq_right (by omega), List.drop_of_length_le (Nat.le_refl _), List.drop_of_length_le (by omega), List.take_nil]
theorem cut_to1 (xs : List PyData) : cutD xs none (some 1) = xs.take 1 := cut_to xs 1
theorem cut_from1 (xs : List PyData) : cutD xs (some 1) none = xs.drop 1 := cut_from xs 1
theorem shaped_tup {xs : List PyData} (h : (PyData.tuple xs).hasDict = false) {B : Nat} (k : okV B (.tuple xs) = true) (d : (PyData.tuple xs).depth ≤ 64) : SeqAt.shaped (.tuple xs) = true := by
  have go : ∀ n : Nat, ∀ x : PyData, sizeOf x ≤ n → x.hasDict = false → okV B x = true → x.canLay0 = true := by
    intro n
    induction n with
    | zero => intro x hx; cases x <;> simp at hx <;> omega
    | succ n ih =>
      intro x hx h1 h2
      have all : ∀ ys : List PyData, (∀ y ∈ ys, sizeOf y ≤ n) → PyData.hasDictAll ys = false → okVs B ys = true → PyData.canLayAll0 ys = true := by
        intro ys
        induction ys with
        | nil => intro _ _ _; simp [PyData.canLayAll0]
        | cons y ys ih2 =>
          intro g1 g2 g3
          rw [PyData.hasDictAll, Bool.or_eq_false_iff] at g2
          rw [okVs, Bool.and_eq_true] at g3
          rw [PyData.canLayAll0, Bool.and_eq_true]
          exact ⟨ih y (g1 y List.mem_cons_self) g2.1 g3.1, ih2 (fun z hz => g1 z (List.mem_cons_of_mem _ hz)) g2.2 g3.2⟩
      cases x with
      | none => simp [PyData.canLay0]
      | bool b => simp [PyData.canLay0]
      | int i => simp [PyData.canLay0]
      | str s => rw [PyData.canLay0]; rw [okV, Bool.and_eq_true] at h2; exact h2.1
      | list ys =>
        rw [PyData.canLay0]
        refine all ys (fun y hy => ?_) (by rwa [PyData.hasDict] at h1) (by rwa [okV] at h2)
        have := List.sizeOf_lt_of_mem hy
        simp only [PyData.list.sizeOf_spec] at hx
        omega
      | tuple ys =>
        rw [PyData.canLay0]
        refine all ys (fun y hy => ?_) (by rwa [PyData.hasDict] at h1) (by rwa [okV] at h2)
        have := List.sizeOf_lt_of_mem hy
        simp only [PyData.tuple.sizeOf_spec] at hx
        omega
      | dict kvs => simp [PyData.hasDict] at h1
  unfold SeqAt.shaped
  rw [go _ _ (Nat.le_refl _) h k, decide_eq_true d]
  rfl
theorem eqD_nilT {xs : List PyData} (h : SeqAt.shaped (.tuple xs) = true) : eqD (.tuple xs) (.tuple []) = some xs.isEmpty := by
  unfold eqD
  rw [h, show SeqAt.shaped (.tuple []) = true from rfl]
  show some (PyData.eqv (.tuple xs) (.tuple [])) = _
  rw [PyData.eqv]
  cases xs <;> simp [PyData.eqvAll]
theorem cmp_eqNilT {xs : List PyData} (h : SeqAt.shaped (.tuple xs) = true) : cmpSem .eq (.d (.tuple xs)) (.d (.tuple [])) = some xs.isEmpty := eqD_nilT h
theorem cmp_neNilT {xs : List PyData} (h : SeqAt.shaped (.tuple xs) = true) : cmpSem .ne (.d (.tuple xs)) (.d (.tuple [])) = some (!xs.isEmpty) := by
  show (eqD (.tuple xs) (.tuple [])).map (!·) = _
  rw [eqD_nilT h]; rfl
theorem app_l {st : Vm.St} {i : Nat} {v : O} {xs : List PyData} {y : PyData} (h : st.ρ[i]? = some (some (.lst xs))) (hv : v.dat = some y) (hl : xs.length < sizeLine) : appAt st i v = some (st.set i (some (.lst (xs ++ [y])))) := by
  unfold appAt
  rw [h, hv]
  exact if_pos hl
theorem stAt_l {st : Vm.St} {i j : Nat} {v : O} {xs : List PyData} {y : PyData} (h : st.ρ[i]? = some (some (.lst xs))) (hv : v.dat = some y) (hl : j < xs.length) : stAt st i (.d (.int (j : Int))) v = some (st.set i (some (.lst (xs.set j y)))) := by
  unfold stAt
  rw [h, hv]
  show (ixN xs.length (j : Int)).map _ = _
  rw [ixN_lt hl]
  rfl
end Vm


set_option Elab.async false
set_option linter.all false
set_option maxRecDepth 100000
set_option maxHeartbeats 4000000
/-! Vm, part 40: texts shown are right texts. -/
namespace Vm
open PySem PySem.Spec PyProof.Rows L2

theorem strOk_iff (s : Str) : PyData.strOk s = true ↔ ∀ c ∈ s.cps.toList, c < 0x110000 := by
  unfold PyData.strOk
  rw [Array.all_eq_true_iff_forall_mem]
  constructor
  · intro h c hc
    have := h c (Array.mem_toList_iff.1 hc)
    simpa using this
  · intro h c hc
    have := h c (Array.mem_toList_iff.2 hc)
    simpa using this
theorem strOk_app {a b : Str} (ha : PyData.strOk a = true) (hb : PyData.strOk b = true) : PyData.strOk (a ++ b) = true := by
  rw [strOk_iff] at *
  intro c hc
  have e : (a ++ b).cps.toList = a.cps.toList ++ b.cps.toList := by
    show (a.cps ++ b.cps).toList = _
    rw [Array.toList_append]
  rw [e] at hc
  rcases List.mem_append.1 hc with q | q
  · exact ha c q
  · exact hb c q
theorem strOk_of (s : String) : PyData.strOk (Str.ofString s) = true := by
  rw [strOk_iff, Str.ofString_eq_toList]
  intro c hc
  rw [List.toList_toArray] at hc
  obtain ⟨x, _, rfl⟩ := List.mem_map.1 hc
  have := x.valid
  have h : x.toNat.isValidChar := x.valid
  unfold Nat.isValidChar at h
  omega
theorem strOk_join {s : Str} (hs : PyData.strOk s = true) : ∀ {ts : List Str}, (∀ t ∈ ts, PyData.strOk t = true) → PyData.strOk (Str.join s ts) = true
  | [], _ => strOk_of ""
  | [x], h => h x List.mem_cons_self
  | x :: y :: r, h => strOk_app (strOk_app (h x List.mem_cons_self) hs) (strOk_join hs fun t ht => h t (List.mem_cons_of_mem _ ht))
theorem strOk_from : ∀ (ts : List Str) (k : Nat) (acc : Str), PyData.strOk acc = true → (∀ t ∈ ts, PyData.strOk t = true) → PyData.strOk (textFrom k acc ts) = true
  | [], _, _, h, _ => h
  | t :: r, k, acc, h, g => by
    show PyData.strOk (textFrom (k + 1) _ r) = true
    exact strOk_from r (k + 1) _ (strOk_app (strOk_app h (strOk_of _)) (g t List.mem_cons_self)) fun t ht => g t (List.mem_cons_of_mem _ ht)
mutual
theorem okV.shownOk {B : Nat} : ∀ d : PyData, okV B d = true → PyData.strOk d.shown = true
  | .none, _ => strOk_of "None"
  | .bool b, _ => by
    rw [PyData.shown]
    split
    · exact strOk_of _
    · exact strOk_of _
  | .int i, k => by
    rw [PyData.shown]
    exact strOk_of _
  | .str x, k => by
    rw [okV, Bool.and_eq_true] at k
    rw [PyData.shown]
    exact k.2
  | .list xs, k => by
    rw [okV] at k
    rw [PyData.shown]
    exact strOk_app (strOk_from _ _ _ (strOk_of _) (okVs.shownOk xs k)) (strOk_of _)
  | .tuple xs, k => by
    rw [okV] at k
    rw [PyData.shown]
    unfold tupleText
    exact strOk_app (strOk_app (strOk_of _) (strOk_join (strOk_of _) (okVs.shownOk xs k))) (strOk_of _)
  | .dict [], _ => by
    rw [PyData.shown]
    unfold dictText
    exact strOk_app (strOk_app (strOk_of _) (strOk_of "")) (strOk_of _)
  | .dict (_ :: _), k => by simp [okV] at k
theorem okVs.shownOk {B : Nat} : ∀ xs : List PyData, okVs B xs = true → ∀ t ∈ PyData.shownAll xs, PyData.strOk t = true
  | [], _, t, ht => by simp [PyData.shownAll] at ht
  | x :: xs, k, t, ht => by
    rw [okVs, Bool.and_eq_true] at k
    rw [PyData.shownAll] at ht
    rcases List.mem_cons.1 ht with rfl | ht
    · exact okV.shownOk x k.1
    · exact okVs.shownOk xs k.2 t ht
end
theorem Fine.ne {x : PyData} {d b : Nat} (h : Fine x d b) : cmpSem .ne (.d (.str x.shown)) (.d (.str x.shown)) = some false := ne_same (okV.shownOk x h.ok)
end Vm


set_option Elab.async false
set_option linter.all false
set_option maxRecDepth 100000
set_option maxHeartbeats 4000000
/-! Vm, part 41: tuples of numbers: as keys, in their order, in dicts. -/
namespace Vm
open PySem PySem.Spec PyProof.Rows L2

def nums (ks : List Nat) : List PyData := ks.map fun k : Nat => PyData.int (k : Int)
abbrev tm (ks : List Nat) : PyData := .tuple (nums ks)
theorem nums_length (ks : List Nat) : (nums ks).length = ks.length := List.length_map _
theorem nums_get (ks : List Nat) (j : Nat) (h : j < ks.length) : (nums ks)[j]? = some (.int (ks[j] : Int)) := by
  unfold nums
  rw [List.getElem?_map, List.getElem?_eq_getElem h]
  rfl
theorem nums_set (ks : List Nat) (j v : Nat) : (nums ks).set j (.int (v : Int)) = nums (ks.set j v) := (List.map_set).symm
theorem nums_append (a b : List Nat) : nums (a ++ b) = nums a ++ nums b := List.map_append
theorem nums_take (a : List Nat) (k : Nat) : (nums a).take k = nums (a.take k) := List.map_take.symm
theorem nums_drop (a : List Nat) (k : Nat) : (nums a).drop k = nums (a.drop k) := List.map_drop.symm
theorem nums_inj : ∀ {a b : List Nat}, nums a = nums b → a = b
  | [], [], _ => rfl
  | [], _ :: _, h => by cases h
  | _ :: _, [], h => by cases h
  | x :: xs, y :: ys, h => by
    unfold nums at h
    simp only [List.map_cons, List.cons.injEq, PyData.int.injEq] at h
    rw [nums_inj (a := xs) (b := ys) h.2, show x = y by have := h.1; omega]
theorem tm_inj {a b : List Nat} (h : tm a = tm b) : a = b := nums_inj (PyData.tuple.inj h)
def dkl (ks : List Nat) : List Key := ks.map fun k : Nat => .inl (k : Int)
theorem toKeys_nums : ∀ ks : List Nat, toKeys (nums ks) = some (dkl ks)
  | [] => rfl
  | k :: ks => by
    show (match toKey (.int (k : Int)), toKeys (nums ks) with
      | some k, some ks => some (k :: ks)
      | _, _ => none) = _
    rw [toKeys_nums ks]
    rfl
theorem noKey_nums (ks : List Nat) : noKey (nums ks) = false := by
  unfold noKey
  rw [toKeys_nums]
  rfl
theorem tupO_nums (ks : List Nat) : tupO (nums ks) = .d (tm ks) := by
  unfold tupO
  rw [noKey_nums]
  rfl
def dk (k : List Nat) : DK := .t (dkl k)
theorem dkl_inj : ∀ {a b : List Nat}, dkl a = dkl b → a = b
  | [], [], _ => rfl
  | [], _ :: _, h => by cases h
  | _ :: _, [], h => by cases h
  | x :: xs, y :: ys, h => by
    unfold dkl at h
    simp only [List.map_cons, List.cons.injEq, Sum.inl.injEq] at h
    rw [dkl_inj (a := xs) (b := ys) h.2, show x = y by have := h.1; omega]
theorem dkt_inj {a b : List Nat} (h : dk a = dk b) : a = b := dkl_inj (DK.t.inj h)
theorem toDK_tm (k : List Nat) : toDK (tm k) = some (dk k) := by
  show (toKeys (nums k)).map DK.t = _
  rw [toKeys_nums]
  rfl
theorem dk_dat (k : List Nat) : (dk k).dat = tm k := by
  show PyData.tuple ((dkl k).map keyDat) = _
  unfold dkl tm nums
  rw [List.map_map]
  rfl
theorem dk_eq (a b : List Nat) : decide (dk a = dk b) = decide (a = b) := by
  by_cases h : a = b
  · subst h; simp
  · rw [decide_eq_false h, decide_eq_false fun z => h (dkt_inj z)]
/-! ### order -/
theorem nums_eq (a : List Nat) : nums a = (a.map fun k : Nat => (k : Int)).map PyData.int := by
  unfold nums
  rw [List.map_map]
  rfl
def zs (a : List Nat) : List Int := a.map fun k : Nat => (k : Int)
theorem zs_inj : ∀ {a b : List Nat}, zs a = zs b → a = b
  | [], [], _ => rfl
  | [], _ :: _, h => by cases h
  | _ :: _, [], h => by cases h
  | x :: xs, y :: ys, h => by
    unfold zs at h
    simp only [List.map_cons, List.cons.injEq] at h
    rw [zs_inj (a := xs) (b := ys) h.2, show x = y by have := h.1; omega]
theorem alike_tm (a b : List Nat) : PySem.W.alike (tm a) (tm b) = true := by
  unfold tm
  rw [nums_eq, nums_eq]
  simp only [PySem.W.alike]
  exact PySem.W.alike_ints _ _
theorem depth_nums : ∀ k : List Nat, PyData.depthAll (nums k) = 0
  | [] => rfl
  | k :: ks => by
    show max (PyData.depth (.int (k : Int))) (PyData.depthAll (nums ks)) = 0
    rw [depth_nums ks]
    rfl
theorem depth_tm (k : List Nat) : (tm k).depth ≤ 1 := by
  show PyData.depthAll (nums k) + 1 ≤ 1
  rw [depth_nums]
  exact Nat.le_refl _
theorem lt_tm (a b : List Nat) : PySem.W.dataLt (tm a) (tm b) = decide (zs a < zs b) := by
  unfold tm
  rw [PySem.W.dataLt_tuple, nums_eq, nums_eq]
  exact PySem.W.dataLt_ints (zs a) (zs b)
theorem cmpOk_tm (a b : List Nat) : cmpOk (tm a) (tm b) = true := by
  unfold cmpOk
  rw [alike_tm a b, decide_eq_true (Nat.le_trans (depth_tm a) (by decide))]
  rfl
theorem cmp_ltT (a b : List Nat) : cmpSem .lt (.d (tm a)) (.d (tm b)) = some (decide (zs a < zs b)) := by
  show (if cmpOk (tm a) (tm b) = true then _ else _) = _
  rw [if_pos (cmpOk_tm a b), lt_tm]
theorem cmp_leT (a b : List Nat) : cmpSem .le (.d (tm a)) (.d (tm b)) = some (!decide (zs b < zs a)) := by
  show (if cmpOk (tm a) (tm b) = true then _ else _) = _
  rw [if_pos (cmpOk_tm a b), lt_tm]
def leT (a b : List Nat) : Bool := !PySem.W.dataLt (tm b) (tm a)
theorem leT_iff (a b : List Nat) : leT a b = true ↔ zs a ≤ zs b := by
  unfold leT
  rw [lt_tm]
  simp [List.not_lt]
theorem leT_trans (a b c : List Nat) (h : leT a b = true) (k : leT b c = true) : leT a c = true := by
  rw [leT_iff] at *
  exact List.le_trans h k
theorem leT_total (a b : List Nat) : (leT a b || leT b a) = true := by
  rw [Bool.or_eq_true, leT_iff, leT_iff]
  exact List.le_total _ _
theorem leT_anti (a b : List Nat) (h : leT a b = true) (k : leT b a = true) : a = b := by
  rw [leT_iff] at *
  exact zs_inj (List.le_antisymm h k)
/-- lots in their order -/
def srtL (D : List (List Nat)) : List (List Nat) := D.mergeSort leT
theorem srtL_perm (D : List (List Nat)) : (srtL D).Perm D := List.mergeSort_perm _ _
theorem mem_srtL {D : List (List Nat)} {x : List Nat} : x ∈ srtL D ↔ x ∈ D := (srtL_perm D).mem_iff
theorem srtL_tm (D : List (List Nat)) : sortD (D.map tm) = (srtL D).map tm := by
  unfold sortD srtL
  exact (List.map_mergeSort (f := tm) (r := leT) (s := fun a b => !PySem.W.dataLt b a) fun a _ b _ => rfl).symm
theorem srtL_congr {D E : List (List Nat)} (h : D.Perm E) : srtL D = srtL E := by
  unfold srtL
  refine List.Perm.eq_of_pairwise (le := fun a b => leT a b = true) (fun a b _ _ => leT_anti a b) ?_ ?_ ?_
  · exact List.pairwise_mergeSort leT_trans leT_total _
  · exact List.pairwise_mergeSort leT_trans leT_total _
  · exact ((List.mergeSort_perm _ _).trans h).trans (List.mergeSort_perm _ _).symm
theorem srtL_sorted {D : List (List Nat)} (hn : D.Nodup) : (srtL D).Pairwise fun a b => zs a < zs b := by
  have a1 : (srtL D).Pairwise fun a b => leT a b = true := List.pairwise_mergeSort leT_trans leT_total _
  have a2 : (srtL D).Pairwise fun a b => a ≠ b := ((srtL_perm D).nodup_iff).2 hn
  refine (a1.and a2).imp fun {a b} h => ?_
  have h1 := (leT_iff a b).1 h.1
  exact Std.lt_of_le_of_ne h1 fun e => h.2 (zs_inj e)
theorem sortable_tms (D : List (List Nat)) : sortable (D.map tm) = true := by
  unfold sortable
  simp only [Bool.and_eq_true, List.all_eq_true, Bool.or_eq_true, decide_eq_true_eq]
  refine ⟨⟨?_, .inl ?_⟩, ?_⟩
  · intro x hx y hy
    obtain ⟨a, ha, rfl⟩ := List.mem_map.1 hx
    obtain ⟨b, hb, rfl⟩ := List.mem_map.1 hy
    exact alike_tm a b
  · intro x hx
    obtain ⟨a, ha, rfl⟩ := List.mem_map.1 hx
    rfl
  · intro x hx
    obtain ⟨a, ha, rfl⟩ := List.mem_map.1 hx
    exact Nat.le_trans (depth_tm a) (by decide)
/-! ### dicts whose keys are lots, all with one value -/
def kvL (v : PyData) (D : List (List Nat)) : KVs := D.map fun k => (dk k, v)
def ins (D : List (List Nat)) (k : List Nat) : List (List Nat) := if k ∈ D then D else D ++ [k]
theorem kvL_any (v : PyData) (D : List (List Nat)) (k : List Nat) : ((kvL v D).any fun p => decide (p.1 = dk k)) = decide (k ∈ D) := by
  unfold kvL
  rw [List.any_map, Bool.eq_iff_iff, decide_eq_true_eq, List.any_eq_true]
  constructor
  · rintro ⟨x, hx, e⟩
    have e : decide (dk x = dk k) = true := e
    rw [dk_eq, decide_eq_true_eq] at e
    exact e ▸ hx
  · intro h
    exact ⟨k, h, by show decide (dk k = dk k) = true; simp⟩
theorem kvPut_kvL (v : PyData) (D : List (List Nat)) (k : List Nat) : kvPut (kvL v D) (dk k) v = kvL v (ins D k) := by
  unfold kvPut
  rw [kvL_any]
  unfold ins
  by_cases h : k ∈ D
  · simp only [h, decide_true, if_true]
    unfold kvL
    rw [List.map_map]
    refine List.map_congr_left fun x hx => ?_
    show (if dk x = dk k then (dk x, v) else (dk x, v)) = _
    split <;> rfl
  · simp only [h, decide_false, Bool.false_eq_true, if_false]
    unfold kvL
    rw [List.map_append]
    rfl
theorem kvGet_kvL (v : PyData) (D : List (List Nat)) (k : List Nat) : kvGet (kvL v D) (dk k) = if k ∈ D then some v else none := by
  unfold kvGet
  cases hf : (kvL v D).find? fun p => decide (p.1 = dk k) with
  | none =>
    have : ¬ k ∈ D := fun h => by
      have := List.find?_eq_none.1 hf (dk k, v) (List.mem_map.2 ⟨k, h, rfl⟩)
      simp at this
    rw [if_neg this]; rfl
  | some p =>
    have h1 := List.find?_some hf
    obtain ⟨x, hx, rfl⟩ := List.mem_map.1 (List.mem_of_find?_eq_some hf)
    have h1 : decide (dk x = dk k) = true := h1
    rw [dk_eq, decide_eq_true_eq] at h1
    rw [if_pos (h1 ▸ hx)]; rfl
theorem kvL_keys (v : PyData) (D : List (List Nat)) : (kvL v D).map (fun p => p.1.dat) = D.map tm := by
  unfold kvL
  rw [List.map_map]
  refine List.map_congr_left fun x hx => dk_dat x
theorem kvL_len (v : PyData) (D : List (List Nat)) : (kvL v D).length = D.length := List.length_map _
theorem mem_ins {D : List (List Nat)} {k x : List Nat} : x ∈ ins D k ↔ x ∈ D ∨ x = k := by
  unfold ins
  split
  · next h => exact ⟨.inl, fun z => z.elim id fun e => e ▸ h⟩
  · rw [List.mem_append, List.mem_singleton]
theorem ins_nodup {D : List (List Nat)} (h : D.Nodup) (k : List Nat) : (ins D k).Nodup := by
  unfold ins
  split
  · exact h
  · next n =>
    rw [List.nodup_append]
    exact ⟨h, List.nodup_cons.2 ⟨List.not_mem_nil, List.nodup_nil⟩, fun a ha b hb e => n (by rw [List.mem_singleton.1 hb] at e; exact e ▸ ha)⟩
theorem ins_len (D : List (List Nat)) (k : List Nat) : (ins D k).length ≤ D.length + 1 := by
  unfold ins
  split
  · omega
  · rw [List.length_append]; exact Nat.le_refl _
theorem mem_insAll {x : List Nat} : ∀ {ks D : List (List Nat)}, x ∈ ks.foldl ins D ↔ x ∈ D ∨ x ∈ ks
  | [], D => by simp
  | k :: ks, D => by
    rw [List.foldl_cons, mem_insAll (ks := ks), mem_ins, List.mem_cons, or_assoc]
theorem insAll_nodup : ∀ (ks : List (List Nat)) {D : List (List Nat)}, D.Nodup → (ks.foldl ins D).Nodup
  | [], _, h => h
  | k :: ks, _, h => insAll_nodup ks (ins_nodup h k)
theorem insAll_len : ∀ (ks D : List (List Nat)), (ks.foldl ins D).length ≤ D.length + ks.length
  | [], D => Nat.le_refl _
  | k :: ks, D => by
    have h1 := insAll_len ks (ins D k)
    have h2 := ins_len D k
    rw [List.foldl_cons, List.length_cons]
    omega
theorem stAt_kvL {st : Vm.St} {i : Nat} {v : PyData} {D : List (List Nat)} {k : List Nat} {o : O} (h : st.ρ[i]? = some (some (O.dct true (kvL v D)))) (ho : o.dat = some v) (hl : D.length < sizeLine) : stAt st i (.d (tm k)) o = some (st.set i (some (.dct true (kvL v (ins D k))))) := by
  unfold stAt
  rw [h, ho]
  show ((toDK (tm k)).bind fun q => if q.tk = true ∧ (kvL v D).length < sizeLine then some (st.set i (some (.dct true (kvPut (kvL v D) q v)))) else none) = _
  rw [toDK_tm, Option.bind_some, if_pos ⟨rfl, by rw [kvL_len]; exact hl⟩, kvPut_kvL]
theorem in_kvL {v : PyData} {D : List (List Nat)} {k : List Nat} : inSem (.d (tm k)) (.dct true (kvL v D)) = some (decide (k ∈ D)) := by
  show ((toDK (tm k)).bind fun q => if q.tk = true then some (kvGet (kvL v D) q).isSome else none) = _
  rw [toDK_tm, Option.bind_some, if_pos (show (dk k).tk = true from rfl), kvGet_kvL]
  by_cases h : k ∈ D
  · simp [h]
  · simp [h]
theorem cmp_inL {v : PyData} {D : List (List Nat)} {k : List Nat} : cmpSem .isin (.d (tm k)) (.dct true (kvL v D)) = some (decide (k ∈ D)) := in_kvL
theorem cmp_notinL {v : PyData} {D : List (List Nat)} {k : List Nat} : cmpSem .notin (.d (tm k)) (.dct true (kvL v D)) = some (!decide (k ∈ D)) := by
  show (inSem (.d (tm k)) (.dct true (kvL v D))).map (!·) = _
  rw [in_kvL]; rfl
theorem pairsOf_lots (v : PyData) : ∀ L : List (List Nat), pairsOf (L.map fun k => PyData.tuple [tm k, v]) = some (L.map fun k => (tm k, v))
  | [] => rfl
  | k :: L => by
    show (pairsOf (L.map fun k => PyData.tuple [tm k, v])).map _ = _
    rw [pairsOf_lots v L]
    rfl
theorem dictOf_lots (v : PyData) : ∀ (L D : List (List Nat)), dictOf true (L.map fun k => (tm k, v)) (kvL v D) = some (kvL v (L.foldl ins D))
  | [], _ => rfl
  | k :: L, D => by
    show (match toDK (tm k) with
      | some q => if q.tk = true then dictOf true (L.map fun k => (tm k, v)) (kvPut (kvL v D) q v) else none
      | none => none) = _
    rw [toDK_tm]
    show (if (dk k).tk = true then dictOf true (L.map fun k => (tm k, v)) (kvPut (kvL v D) (dk k) v) else none) = _
    rw [if_pos (show (dk k).tk = true from rfl), kvPut_kvL, dictOf_lots v L]
    rfl
theorem filterMap_some {α β : Type} (f : α → β) : ∀ xs : List α, xs.filterMap (fun x => some (f x)) = xs.map f
  | [] => rfl
  | x :: xs => by rw [List.filterMap_cons, filterMap_some f xs, List.map_cons]
theorem filterMap_if {α β : Type} (p : α → Prop) [DecidablePred p] (f : α → β) : ∀ xs : List α, (xs.filterMap fun x => if p x then some (f x) else none) = (xs.filter fun x => decide (p x)).map f
  | [] => rfl
  | x :: xs => by
    rw [List.filterMap_cons, List.filter_cons]
    by_cases h : p x
    · rw [if_pos h, if_pos (decide_eq_true h), List.map_cons, filterMap_if p f xs]
    · rw [if_neg h, if_neg (by simp [h]), filterMap_if p f xs]
theorem rngD_eq (a : Int) (n : Nat) : rngD a n = (List.range n).map fun (k : Nat) => PyData.int (a + (k : Int)) := rfl
theorem rngD0 (n : Nat) : rngD 0 n = (List.range n).map fun (k : Nat) => PyData.int (k : Int) := by
  rw [rngD_eq]
  refine List.map_congr_left fun x _ => ?_
  rw [Int.zero_add]
theorem isTup_or (x : PyData) : (∃ xs, x = .tuple xs) ∨ isTup x = false := by
  cases x <;> simp [isTup]
theorem isZ_or (x : PyData) : (∃ i, x = .int i) ∨ isZ x = false := by
  cases x <;> simp [isZ]
theorem okV_tup {B : Nat} {xs : List PyData} (h : okV B (.tuple xs) = true) : ∀ x ∈ xs, okV B x = true := by
  rw [okV] at h
  exact (okVs_iff B xs).1 h
theorem bulk_mem {xs : List PyData} {x : PyData} {m : Nat} (hx : x ∈ xs) (h : (PyData.tuple xs).bulk ≤ m) : x.bulk ≤ m := by
  rw [PyData.bulk] at h
  have := bulkAll_mem hx
  omega
theorem bulk_len {xs : List PyData} {m : Nat} (h : (PyData.tuple xs).bulk ≤ m) : xs.length ≤ m := by
  rw [PyData.bulk] at h
  exact Nat.le_trans (bulkAll_len xs) h
theorem pl_tm {ks : List Nat} {m : Nat} (h6 : ks.length ≤ m) (hk : ∀ k ∈ ks, k ≤ 1000) : Pl (tm ks) 1 m := by
  have := Pl.tup (xs := nums ks) (d := 0) (b := 0) (m := m) (fun x hx => ?_) (by rw [nums_length]; exact h6)
  · rw [Nat.zero_add, Nat.mul_one] at this; exact this
  · obtain ⟨k, hk2, rfl⟩ := List.mem_map.1 hx
    have := hk k hk2
    exact Pl.int (by omega)
mutual
theorem eqv_refl : ∀ x : PyData, x.hasDict = false → PyData.eqv x x = true
  | .none, _ => by simp [PyData.eqv]
  | .bool b, _ => by simp [PyData.eqv]
  | .int i, _ => by simp [PyData.eqv]
  | .str s, _ => by simp [PyData.eqv]
  | .list xs, h => by rw [PyData.eqv]; exact eqvAll_refl xs (by rwa [PyData.hasDict] at h)
  | .tuple xs, h => by rw [PyData.eqv]; exact eqvAll_refl xs (by rwa [PyData.hasDict] at h)
  | .dict _, h => by simp [PyData.hasDict] at h
theorem eqvAll_refl : ∀ xs : List PyData, PyData.hasDictAll xs = false → PyData.eqvAll xs xs = true
  | [], _ => by simp [PyData.eqvAll]
  | x :: xs, h => by
    rw [PyData.hasDictAll, Bool.or_eq_false_iff] at h
    rw [PyData.eqvAll, eqv_refl x h.1, eqvAll_refl xs h.2]
    rfl
end
theorem canLay_of : ∀ {B : Nat} (n : Nat) (x : PyData), sizeOf x ≤ n → x.hasDict = false → okV B x = true → x.canLay0 = true := by
  intro B n
  induction n with
  | zero => intro x hx; cases x <;> simp at hx <;> omega
  | succ n ih =>
    intro x hx h1 h2
    have all : ∀ ys : List PyData, (∀ y ∈ ys, sizeOf y ≤ n) → PyData.hasDictAll ys = false → okVs B ys = true → PyData.canLayAll0 ys = true := by
      intro ys
      induction ys with
      | nil => intro _ _ _; simp [PyData.canLayAll0]
      | cons y ys ih2 =>
        intro g1 g2 g3
        rw [PyData.hasDictAll, Bool.or_eq_false_iff] at g2
        rw [okVs, Bool.and_eq_true] at g3
        rw [PyData.canLayAll0, Bool.and_eq_true]
        exact ⟨ih y (g1 y List.mem_cons_self) g2.1 g3.1, ih2 (fun z hz => g1 z (List.mem_cons_of_mem _ hz)) g2.2 g3.2⟩
    cases x with
    | none => simp [PyData.canLay0]
    | bool b => simp [PyData.canLay0]
    | int i => simp [PyData.canLay0]
    | str s => rw [PyData.canLay0]; rw [okV, Bool.and_eq_true] at h2; exact h2.1
    | list ys =>
      rw [PyData.canLay0]
      refine all ys (fun y hy => ?_) (by rwa [PyData.hasDict] at h1) (by rwa [okV] at h2)
      have := List.sizeOf_lt_of_mem hy
      simp only [PyData.list.sizeOf_spec] at hx
      omega
    | tuple ys =>
      rw [PyData.canLay0]
      refine all ys (fun y hy => ?_) (by rwa [PyData.hasDict] at h1) (by rwa [okV] at h2)
      have := List.sizeOf_lt_of_mem hy
      simp only [PyData.tuple.sizeOf_spec] at hx
      omega
    | dict kvs => simp [PyData.hasDict] at h1
theorem Pl.shaped {x : PyData} {d b : Nat} (h : Pl x d b) (hd : d ≤ 64) : SeqAt.shaped x = true := by
  unfold SeqAt.shaped
  rw [canLay_of _ x (Nat.le_refl _) h.nod h.ok, decide_eq_true (Nat.le_trans h.dep hd)]
  rfl
theorem Pl.ne_same {x : PyData} {d b : Nat} (h : Pl x d b) (hd : d ≤ 64) : cmpSem .ne (.d x) (.d x) = some false := by
  show (eqD x x).map (!·) = _
  unfold eqD
  rw [h.shaped hd, eqv_refl x h.nod]
  rfl
end Vm


set_option Elab.async false
set_option linter.all false
set_option maxRecDepth 100000
set_option maxHeartbeats 4000000
/-! Vm, part 42: more rules by which the evaluator is stepped through. -/
namespace Vm
open PySem PySem.Spec PyProof.Rows L2

section
variable {Φ : Fs} {st : Vm.St}
theorem ex_iteB (c : Bool) {α : Type} (x y : Option α) (Q : α → Prop) : Ex (x := if c = true then x else y) Q = ((c = true → Ex (x := x) Q) ∧ (c = false → Ex (x := y) Q)) := by
  cases c <;> simp only [ex_ey, Bool.false_eq_true, if_false, if_true, forall_const, reduceCtorEq, false_implies, true_implies, and_true, true_and]
theorem q_chain (op op' : Cop) (a b c : E) (Q : O × Vm.St → Prop) : Ex (x := evE Φ (.chain op op' a b c) st) Q = Ex (x := evE Φ a st) fun r => Ex (x := evE Φ b r.2) fun q => Ex (x := datO q.1) fun w => Ex (x := vw q.2 r.1) fun u => Ex (x := cmpSem op u (.d w)) fun t =>
    (t = true → Ex (x := evE Φ c q.2) fun p => Ex (x := vw p.2 p.1) fun v => Ex (x := cmpSem op' (.d w) v) fun z => Q (.d (.bool z), p.2)) ∧ (t = false → Q (.d (.bool false), q.2)) := by
  rw [evE]
  simp only [ex_ey, ey_bind]
  congr 1; funext r; congr 1; funext q; congr 1; funext w; congr 1; funext u; congr 1; funext t
  cases t <;> simp only [ex_ey, Bool.false_eq_true, if_false, if_true, ey_some, ey_bind, ey_map, forall_const, reduceCtorEq, false_implies, true_implies, and_true, true_and]
theorem q_popi (i : Nat) (e : E) (Q : O × Vm.St → Prop) (h : ∃ xs, st.ρ[i]? = some (some (.lst xs))) : Ex (x := evE Φ (.popi i e) st) Q = Ex (x := evE Φ e st) fun r => Ex (x := intO r.1) fun k => Ex (x := popAt r.2 i k) Q := by
  obtain ⟨xs, h⟩ := h
  rw [evE, h]
  dsimp only
  rw [ex_bind]
  congr 1; funext r; obtain ⟨o, s⟩ := r
  dsimp only
  split
  · simp only [ex_ey, intO, ey_some]
  · next h =>
    simp only [intO_none h, ex_ey, ey_none]
theorem popAt_nat {i k : Nat} {xs : List PyData} (h : st.ρ[i]? = some (some (.lst xs))) (hk : k < xs.length) (hs : xs.length ≤ sizeLine) : popAt st i (k : Int) = some (.d xs[k], st.set i (some (.lst (xs.eraseIdx k)))) := by
  unfold popAt
  rw [h]
  have h63 : xs.length < 2 ^ 63 := Nat.lt_of_le_of_lt hs (by rw [sizeLine_eq]; decide)
  show (if -(2 ^ 63) ≤ (k : Int) ∧ (k : Int) < 2 ^ 63 then _ else _) = _
  rw [if_pos ⟨by omega, by omega⟩, show seqIndex? (k : Int) xs.length = some k from by rw [seqIndex_of (by omega) (by omega)]; rfl, Option.bind_some, List.getElem?_eq_getElem hk]
  rfl
theorem q_rng0 (b : E) (Q : O × Vm.St → Prop) : Ex (x := evE Φ (.rng0 true b) st) Q = Ex (x := evE Φ b st) fun r => Ex (x := intO r.1) fun j => (inBnd j && decide (j.toNat ≤ sizeLine)) = true ∧ Q (.lst (rngD 0 j.toNat), r.2) := by
  rw [evE, ex_bind]
  congr 1; funext r; obtain ⟨o, s⟩ := r
  dsimp only
  split
  · simp only [ex_ey, intO, ey_some, ey_iteN, if_true]
  · next h =>
    simp only [intO_none h, ex_ey, ey_none]
theorem q_rng0T (b : E) (Q : O × Vm.St → Prop) : Ex (x := evE Φ (.rng0 false b) st) Q = Ex (x := evE Φ b st) fun r => Ex (x := intO r.1) fun j => (inBnd j && decide (j.toNat ≤ sizeLine)) = true ∧ Q (.d (.tuple (rngD 0 j.toNat)), r.2) := by
  rw [evE, ex_bind]
  congr 1; funext r; obtain ⟨o, s⟩ := r
  dsimp only
  split
  · simp only [ex_ey, intO, ey_some, ey_iteN, Bool.false_eq_true, if_false]
  · next h =>
    simp only [intO_none h, ex_ey, ey_none]
theorem q_enum (e : E) (Q : List PyData × Vm.St → Prop) : Ex (x := evIt Φ (.enum e) st) Q = Ex (x := evE Φ e st) fun r => Ex (x := r.1.dat) fun o => Ex (x := listOf o) fun xs => Q (enumD 0 xs, r.2) := by
  rw [evIt]; simp only [ex_ey, ey_bind, ey_map]
theorem q_star (e : E) (es : Es) (Q : List O × Vm.St → Prop) : Ex (x := evEs Φ (.star e es) st) Q = Ex (x := evE Φ e st) fun r => Ex (x := starO r.1) fun ps => Ex (x := evEs Φ es r.2) fun q => Q (ps ++ q.1, q.2) := by
  rw [evEs]; simp only [ex_ey, ey_bind, ey_map]
theorem q_unp (ts : Tgs) (e : E) (Q : Out → Prop) : Ex (x := evS Φ (.unp ts e) st) Q = Ex (x := evE Φ e st) fun r => Ex (x := r.1.dat) fun d => Ex (x := asg (.tp ts) d r.2) fun s => Q (.nx s) := by
  rw [evS]; simp only [ex_ey, ey_bind, ey_map]
theorem q_dofK (e : E) (Q : O × Vm.St → Prop) : Ex (x := evE Φ (.dof false e) st) Q = Ex (x := evE Φ e st) fun r => Ex (x := seqL r.2 r.1) fun xs => Ex (x := pairsOf xs) fun ps => Ex (x := dictOf false ps []) fun kvs => Q (.dct false kvs, r.2) := by
  rw [evE]; simp only [ex_ey, ey_bind, ey_map, Bool.false_eq_true, if_false]
theorem q_aug (i : Nat) (op : Bop) (e : E) (Q : Out → Prop) {x : PyData} (h : st.ρ[i]? = some (some (.d x))) : Ex (x := evS Φ (.aug i op e) st) Q = Ex (x := evE Φ e st) fun r => Ex (x := datO r.1) fun y => Ex (x := augSem op x y) fun z => Ex (x := put r.2 i (.d z)) fun s => Q (.nx s) := by
  rw [evS, h]
  show Ex (x := (evE Φ e st).bind _) Q = _
  rw [ex_bind]
  congr 1; funext r; obtain ⟨o, s⟩ := r
  cases o <;> simp only [ex_ey, datO, ey_some, ey_none, ey_bind, ey_map]
theorem q_aui (i : Nat) (k : E) (op : Bop) (e : E) (Q : Out → Prop) (h : ∃ o, st.ρ[i]? = some (some o)) : Ex (x := evS Φ (.aui i k op e) st) Q = Ex (x := evE Φ k st) fun r => Ex (x := getAt r.2 i r.1) fun x => Ex (x := evE Φ e r.2) fun q => Ex (x := datO q.1) fun y => Ex (x := augSem op x y) fun z => Ex (x := stAt q.2 i r.1 (.d z)) fun s => Q (.nx s) := by
  obtain ⟨o, h⟩ := h
  rw [evS, h]
  show Ex (x := (evE Φ k st).bind _) Q = _
  rw [ex_bind]
  congr 1; funext r
  show Ex (x := (getAt r.2 i r.1).bind _) Q = _
  rw [ex_bind]
  congr 1; funext x
  rw [ex_bind]
  congr 1; funext q
  obtain ⟨o2, s2⟩ := q
  cases o2 <;> simp only [ex_ey, datO, ey_some, ey_none, ey_bind, ey_map]
theorem datO_d (x : PyData) : datO (.d x) = some x := rfl
theorem star_t (xs : List PyData) : starO (.d (.tuple xs)) = some (xs.map .d) := rfl
theorem star_pt (xs : List PyData) : starO (.pt xs) = some (xs.map .d) := rfl
theorem star_l (xs : List PyData) : starO (.d (.list xs)) = some (xs.map .d) := rfl
theorem seqOf_l (xs : List PyData) : seqOf (.list xs) = some xs := rfl
theorem seqOf_t (xs : List PyData) : seqOf (.tuple xs) = some xs := rfl
theorem listOf_l (xs : List PyData) : listOf (.list xs) = some xs := rfl
theorem seqL_lst (xs : List PyData) : seqL st (.lst xs) = some xs := rfl
theorem seqL_dl (xs : List PyData) : seqL st (.d (.list xs)) = some xs := rfl
theorem datAll_ds : ∀ xs : List PyData, datAll (xs.map .d) = some xs
  | [] => rfl
  | x :: xs => by
    show (datAll (xs.map .d)).map (x :: ·) = _
    rw [datAll_ds xs]; rfl
theorem datAll_app : ∀ (a b : List O) {xs ys : List PyData}, datAll a = some xs → datAll b = some ys → datAll (a ++ b) = some (xs ++ ys)
  | [], b, xs, ys, h, g => by cases h; exact g
  | o :: a, b, xs, ys, h, g => by
    unfold datAll at h
    cases ho : o.dat with
    | none => rw [ho] at h; cases h
    | some x =>
      rw [ho] at h
      cases ha : datAll a with
      | none => rw [ha] at h; cases h
      | some xs' =>
        rw [ha] at h
        cases h
        show (o.dat).bind _ = _
        rw [ho, Option.bind_some, show a.append b = a ++ b from rfl, datAll_app a b ha g]
        rfl
end
end Vm


set_option Elab.async false
set_option linter.all false
set_option maxRecDepth 100000
set_option maxHeartbeats 0
namespace K82
open PySem PySem.Spec PyProof.Rows L2 Vm
def top (i : Nat) : Stmt := PySem.Challenge.pw_topplingsteps_k82_whole_families_and_wha.main.body.getD i (.Pass ⟨0, 0, 0, 0⟩)
/-- is_thing: value many -/
def a_is_thing : Ss := (.cons (.ret (.and (.fn (.isi "int") (.cons (.bor 0) .nil)) (.and (.not (.v (.fn (.isi "bool") (.cons (.bor 0) .nil)))) (.chain .le .lt (.int 0) (.bor 0) (.bor 1))))) .nil)
def n_is_thing : List Str := ["value", "many"]
def p_is_thing : List Str := ["value", "many"]
theorem s_is_thing_ok : C8.scC n_is_thing p_is_thing (C8.fnScope (top 1)) = true := by decide +kernel
theorem c_is_thing_ok : chkSs ⟨n_is_thing, C8.fnScope (top 1), fun _ => true, false⟩ a_is_thing (C8.fnBody (top 1)) = true := by decide +kernel
/-- is_thing_lot_of: many value one k -/
def a_is_thing_lot_of : Ss := (.cons (.ifs (.or (.not (.v (.fn (.isi "tuple") (.cons (.bor 1) .nil)))) (.not (.v (.fn .all (.cons (.lc false (.call "is_thing" (.cons (.var 2) (.cons (.var 0) .nil))) (.nm 2) (.seq (.var 1)) .no [2]) .nil))))) (.cons (.ret (.bl false)) .nil) .nil) (.cons (.ret (.cmp .eq (.lc false (.var 3) (.nm 3) (.rng2 (.int 1) (.fn .len (.cons (.bor 1) .nil))) (.yes (.v (.cmp .le (.idx (.bor 1) (.bor 3)) (.idx (.bor 1) (.bin .sub (.bor 3) (.int 1)))))) [3]) (.lst .nil))) .nil))
def n_is_thing_lot_of : List Str := ["many", "value", "one", "k"]
def p_is_thing_lot_of : List Str := ["many", "value"]
theorem s_is_thing_lot_of_ok : C8.scC n_is_thing_lot_of p_is_thing_lot_of (C8.fnScope (top 2)) = true := by decide +kernel
theorem c_is_thing_lot_of_ok : chkSs ⟨n_is_thing_lot_of, C8.fnScope (top 2), fun _ => true, false⟩ a_is_thing_lot_of (C8.fnBody (top 2)) = true := by decide +kernel
/-- sides_of: lot k -/
def a_sides_of : Ss := (.cons (.ret (.lc false (.bin .add (.slc (.bor 0) .no (.yes (.var 1))) (.slc (.bor 0) (.yes (.bin .add (.bor 1) (.int 1))) .no)) (.nm 1) (.rng1 (.fn .len (.cons (.bor 0) .nil))) .no [1])) .nil)
def n_sides_of : List Str := ["lot", "k"]
def p_sides_of : List Str := ["lot"]
theorem s_sides_of_ok : C8.scC n_sides_of p_sides_of (C8.fnScope (top 3)) = true := by decide +kernel
theorem c_sides_of_ok : chkSs ⟨n_sides_of, C8.fnScope (top 3), fun _ => true, false⟩ a_sides_of (C8.fnBody (top 3)) = true := by decide +kernel
/-- parts_of: lot found thing part -/
def a_parts_of : Ss := (.cons (.set 1 (.lst (.cons (.tup .nil) .nil))) (.cons (.forr (.nm 2) (.seq (.var 0)) (.cons (.set 1 (.bin .add (.bor 1) (.lc false (.tup (.star (.var 3) (.cons (.var 2) .nil))) (.nm 3) (.seq (.var 1)) .no [3]))) .nil)) (.cons (.ret (.mov 1)) .nil)))
def n_parts_of : List Str := ["lot", "found", "thing", "part"]
def p_parts_of : List Str := ["lot"]
theorem s_parts_of_ok : C8.scC n_parts_of p_parts_of (C8.fnScope (top 4)) = true := by decide +kernel
theorem c_parts_of_ok : chkSs ⟨n_parts_of, C8.fnScope (top 4), fun _ => true, false⟩ a_parts_of (C8.fnBody (top 4)) = true := by decide +kernel
/-- family_of: many lots known lot part -/
def a_family_of : Ss := (.cons (.set 2 (.dnew true)) (.cons (.forr (.nm 3) (.seq (.var 1)) (.cons (.forr (.nm 4) (.seq (.call "parts_of" (.cons (.var 3) .nil))) (.cons (.sti 2 (.var 4) (.bl true)) .nil)) .nil)) (.cons (.ret (.tup (.cons (.var 0) (.cons (.fn .tuple (.cons (.fn .sorted (.cons (.bor 2) .nil)) .nil)) .nil)))) .nil)))
def n_family_of : List Str := ["many", "lots", "known", "lot", "part"]
def p_family_of : List Str := ["many", "lots"]
theorem s_family_of_ok : C8.scC n_family_of p_family_of (C8.fnScope (top 5)) = true := by decide +kernel
theorem c_family_of_ok : chkSs ⟨n_family_of, C8.fnScope (top 5), fun _ => true, false⟩ a_family_of (C8.fnBody (top 5)) = true := by decide +kernel
/-- is_family: value lot k known side -/
def a_is_family : Ss := (.cons (.ifs (.or (.not (.v (.fn (.isi "tuple") (.cons (.bor 0) .nil)))) (.or (.v (.cmp .ne (.fn .len (.cons (.bor 0) .nil)) (.int 2))) (.not (.v (.fn (.isi "tuple") (.cons (.idx (.bor 0) (.int 1)) .nil)))))) (.cons (.ret (.bl false)) .nil) .nil) (.cons (.ifs (.or (.not (.v (.fn (.isi "int") (.cons (.idx (.bor 0) (.int 0)) .nil)))) (.or (.v (.fn (.isi "bool") (.cons (.idx (.bor 0) (.int 0)) .nil))) (.v (.cmp .lt (.idx (.bor 0) (.int 0)) (.int 0))))) (.cons (.ret (.bl false)) .nil) .nil) (.cons (.ifs (.not (.v (.fn .all (.cons (.lc false (.call "is_thing_lot_of" (.cons (.idx (.bor 0) (.int 0)) (.cons (.var 1) .nil))) (.nm 1) (.seq (.idx (.bor 0) (.int 1))) .no [1]) .nil)))) (.cons (.ret (.bl false)) .nil) .nil) (.cons (.ifs (.v (.cmp .ne (.lc false (.var 2) (.nm 2) (.rng2 (.int 1) (.fn .len (.cons (.idx (.bor 0) (.int 1)) .nil))) (.yes (.v (.cmp .le (.idx (.idx (.bor 0) (.int 1)) (.bor 2)) (.idx (.idx (.bor 0) (.int 1)) (.bin .sub (.bor 2) (.int 1)))))) [2]) (.lst .nil))) (.cons (.ret (.bl false)) .nil) .nil) (.cons (.set 3 (.dof true (.lc false (.tup (.cons (.var 1) (.cons (.bl true) .nil))) (.nm 1) (.seq (.idx (.bor 0) (.int 1))) .no [1]))) (.cons (.ret (.cmp .eq (.lc false (.var 1) (.nm 1) (.seq (.idx (.bor 0) (.int 1))) (.yes (.v (.cmp .ne (.lc false (.var 4) (.nm 4) (.seq (.call "sides_of" (.cons (.var 1) .nil))) (.yes (.v (.cmp .notin (.bor 4) (.bor 3)))) [4]) (.lst .nil)))) [1]) (.lst .nil))) .nil))))))
def n_is_family : List Str := ["value", "lot", "k", "known", "side"]
def p_is_family : List Str := ["value"]
theorem s_is_family_ok : C8.scC n_is_family p_is_family (C8.fnScope (top 6)) = true := by decide +kernel
theorem c_is_family_ok : chkSs ⟨n_is_family, C8.fnScope (top 6), fun _ => true, false⟩ a_is_family (C8.fnBody (top 6)) = true := by decide +kernel
/-- greatest_lots: family sides lot side -/
def a_greatest_lots : Ss := (.cons (.set 1 (.dnew true)) (.cons (.forr (.nm 2) (.seq (.idx (.bor 0) (.int 1))) (.cons (.forr (.nm 3) (.seq (.call "sides_of" (.cons (.var 2) .nil))) (.cons (.sti 1 (.var 3) (.bl true)) .nil)) .nil)) (.cons (.ret (.fn .tuple (.cons (.lc false (.var 2) (.nm 2) (.seq (.idx (.bor 0) (.int 1))) (.yes (.v (.cmp .notin (.bor 2) (.bor 1)))) [2]) .nil))) .nil)))
def n_greatest_lots : List Str := ["family", "sides", "lot", "side"]
def p_greatest_lots : List Str := ["family"]
theorem s_greatest_lots_ok : C8.scC n_greatest_lots p_greatest_lots (C8.fnScope (top 7)) = true := by decide +kernel
theorem c_greatest_lots_ok : chkSs ⟨n_greatest_lots, C8.fnScope (top 7), fun _ => true, false⟩ a_greatest_lots (C8.fnBody (top 7)) = true := by decide +kernel
/-- top_size: family sizes lot -/
def a_top_size : Ss := (.cons (.set 1 (.fn .sorted (.cons (.dof false (.lc false (.tup (.cons (.fn .len (.cons (.bor 2) .nil)) (.cons (.bl true) .nil))) (.nm 2) (.seq (.call "greatest_lots" (.cons (.var 0) .nil))) .no [2])) .nil))) (.cons (.ret (.ife (.v (.cmp .eq (.fn .len (.cons (.bor 1) .nil)) (.int 1))) (.idx (.bor 1) (.int 0)) .non)) .nil))
def n_top_size : List Str := ["family", "sizes", "lot"]
def p_top_size : List Str := ["family"]
theorem s_top_size_ok : C8.scC n_top_size p_top_size (C8.fnScope (top 8)) = true := by decide +kernel
theorem c_top_size_ok : chkSs ⟨n_top_size, C8.fnScope (top 8), fun _ => true, false⟩ a_top_size (C8.fnBody (top 8)) = true := by decide +kernel
/-- lots_of_size: family size lot -/
def a_lots_of_size : Ss := (.cons (.ret (.fn .tuple (.cons (.lc false (.var 2) (.nm 2) (.seq (.idx (.bor 0) (.int 1))) (.yes (.v (.cmp .eq (.fn .len (.cons (.bor 2) .nil)) (.bor 1)))) [2]) .nil))) .nil)
def n_lots_of_size : List Str := ["family", "size", "lot"]
def p_lots_of_size : List Str := ["family", "size"]
theorem s_lots_of_size_ok : C8.scC n_lots_of_size p_lots_of_size (C8.fnScope (top 9)) = true := by decide +kernel
theorem c_lots_of_size_ok : chkSs ⟨n_lots_of_size, C8.fnScope (top 9), fun _ => true, false⟩ a_lots_of_size (C8.fnBody (top 9)) = true := by decide +kernel
/-- greatest_size: family lot -/
def a_greatest_size : Ss := (.cons (.ret (.fn .max (.cons (.bin .add (.lst (.cons (.neg (.int 1)) .nil)) (.lc false (.fn .len (.cons (.bor 1) .nil)) (.nm 1) (.seq (.idx (.bor 0) (.int 1))) .no [1])) .nil))) .nil)
def n_greatest_size : List Str := ["family", "lot"]
def p_greatest_size : List Str := ["family"]
theorem s_greatest_size_ok : C8.scC n_greatest_size p_greatest_size (C8.fnScope (top 10)) = true := by decide +kernel
theorem c_greatest_size_ok : chkSs ⟨n_greatest_size, C8.fnScope (top 10), fun _ => true, false⟩ a_greatest_size (C8.fnBody (top 10)) = true := by decide +kernel
/-- sizes_of: family size -/
def a_sizes_of : Ss := (.cons (.ret (.fn .tuple (.cons (.lc false (.fn .len (.cons (.call "lots_of_size" (.cons (.var 0) (.cons (.var 1) .nil))) .nil)) (.nm 1) (.rng1 (.bin .add (.call "greatest_size" (.cons (.var 0) .nil)) (.int 1))) .no [1]) .nil))) .nil)
def n_sizes_of : List Str := ["family", "size"]
def p_sizes_of : List Str := ["family"]
theorem s_sizes_of_ok : C8.scC n_sizes_of p_sizes_of (C8.fnScope (top 11)) = true := by decide +kernel
theorem c_sizes_of_ok : chkSs ⟨n_sizes_of, C8.fnScope (top 11), fun _ => true, false⟩ a_sizes_of (C8.fnBody (top 11)) = true := by decide +kernel
/-- family_sign: family lot -/
def a_family_sign : Ss := (.cons (.ret (.fn .sum (.cons (.lc false (.bin .sub (.int 1) (.bin .mul (.int 2) (.bin .fmod (.fn .len (.cons (.bor 1) .nil)) (.int 2)))) (.nm 1) (.seq (.idx (.bor 0) (.int 1))) .no [1]) .nil))) .nil)
def n_family_sign : List Str := ["family", "lot"]
def p_family_sign : List Str := ["family"]
theorem s_family_sign_ok : C8.scC n_family_sign p_family_sign (C8.fnScope (top 12)) = true := by decide +kernel
theorem c_family_sign_ok : chkSs ⟨n_family_sign, C8.fnScope (top 12), fun _ => true, false⟩ a_family_sign (C8.fnBody (top 12)) = true := by decide +kernel
/-- _law_pick: source many left mixed -/
def a_law_pick : Ss := (.cons (.ifs (.v (.cmp .lt (.bor 1) (.int 2))) (.cons (.ret (.int 0)) .nil) .nil) (.cons (.whl 100 (.and (.v (.cmp .lt (.sg 0 "left") (.int 2))) (.v (.cmp .gt (.sl 0) (.int 0)))) (.cons (.sw 0 "left" (.sp 0)) .nil)) (.cons (.set 2 (.sg 0 "left")) (.cons (.ifs (.v (.cmp .gt (.bor 2) (.int 1))) (.cons (.sw 0 "left" (.bin .fdiv (.bor 2) (.bor 1))) (.cons (.ret (.bin .fmod (.fn .int (.cons (.bor 2) .nil)) (.bor 1))) .nil)) .nil) (.cons (.sw 0 "turn" (.bin .add (.sg 0 "turn") (.int 1))) (.cons (.set 3 (.bin .fmod (.fn .int (.cons (.bin .add (.sg 0 "mixed") (.bin .mul (.sg 0 "turn") (.int 104729))) .nil)) (.int 998244353))) (.cons (.set 3 (.bin .fmod (.fn .int (.cons (.bin .add (.bin .mul (.bor 3) (.bor 3)) (.bin .mul (.sg 0 "turn") (.int 17))) .nil)) (.int 2147483647))) (.cons (.sw 0 "mixed" (.var 3)) (.cons (.ret (.bin .fmod (.fn .int (.cons (.bin .fdiv (.bor 3) (.int 16)) .nil)) (.bor 1))) .nil)))))))))
def n_law_pick : List Str := ["source", "many", "left", "mixed"]
def p_law_pick : List Str := ["source", "many"]
theorem s_law_pick_ok : C8.scC n_law_pick p_law_pick (C8.fnScope (top 15)) = true := by decide +kernel
theorem c_law_pick_ok : chkSs ⟨n_law_pick, C8.fnScope (top 15), fun _ => true, false⟩ a_law_pick (C8.fnBody (top 15)) = true := by decide +kernel
/-- _law_of: source some -/
def a_law_of : Ss := (.cons (.ret (.idx (.bor 1) (.calls "_law_pick" (.cons (.var 0) (.cons (.fn .len (.cons (.bor 1) .nil)) .nil))))) .nil)
def n_law_of : List Str := ["source", "some"]
def p_law_of : List Str := ["source", "some"]
theorem s_law_of_ok : C8.scC n_law_of p_law_of (C8.fnScope (top 16)) = true := by decide +kernel
theorem c_law_of_ok : chkSs ⟨n_law_of, C8.fnScope (top 16), fun _ => true, false⟩ a_law_of (C8.fnBody (top 16)) = true := by decide +kernel
/-- _law_mixed: source things rest turn -/
def a_law_mixed : Ss := (.cons (.set 2 (.fn .list (.cons (.bor 1) .nil))) (.cons (.ret (.lc false (.popi 2 (.calls "_law_pick" (.cons (.var 0) (.cons (.fn .len (.cons (.bor 2) .nil)) .nil)))) (.nm 3) (.rng1 (.fn .len (.cons (.bor 2) .nil))) .no [3])) .nil))
def n_law_mixed : List Str := ["source", "things", "rest", "turn"]
def p_law_mixed : List Str := ["source", "things"]
theorem s_law_mixed_ok : C8.scC n_law_mixed p_law_mixed (C8.fnScope (top 17)) = true := by decide +kernel
theorem c_law_mixed_ok : chkSs ⟨n_law_mixed, C8.fnScope (top 17), fun _ => true, false⟩ a_law_mixed (C8.fnBody (top 17)) = true := by decide +kernel
/-- _law_is_int: value -/
def a_law_is_int : Ss := (.cons (.ret (.and (.fn (.isi "int") (.cons (.bor 0) .nil)) (.not (.v (.fn (.isi "bool") (.cons (.bor 0) .nil)))))) .nil)
def n_law_is_int : List Str := ["value"]
def p_law_is_int : List Str := ["value"]
theorem s_law_is_int_ok : C8.scC n_law_is_int p_law_is_int (C8.fnScope (top 18)) = true := by decide +kernel
theorem c_law_is_int_ok : chkSs ⟨n_law_is_int, C8.fnScope (top 18), fun _ => true, false⟩ a_law_is_int (C8.fnBody (top 18)) = true := by decide +kernel
/-- _law_parts: lot found x some -/
def a_law_parts : Ss := (.cons (.set 1 (.lst (.cons (.tup .nil) .nil))) (.cons (.forr (.nm 2) (.seq (.var 0)) (.cons (.set 1 (.bin .add (.bor 1) (.lc false (.bin .add (.bor 3) (.tup (.cons (.var 2) .nil))) (.nm 3) (.seq (.var 1)) .no [3]))) .nil)) (.cons (.ret (.mov 1)) .nil)))
def n_law_parts : List Str := ["lot", "found", "x", "some"]
def p_law_parts : List Str := ["lot"]
theorem s_law_parts_ok : C8.scC n_law_parts p_law_parts (C8.fnScope (top 19)) = true := by decide +kernel
theorem c_law_parts_ok : chkSs ⟨n_law_parts, C8.fnScope (top 19), fun _ => true, false⟩ a_law_parts (C8.fnBody (top 19)) = true := by decide +kernel
/-- _law_family: many lots found lot part -/
def a_law_family : Ss := (.cons (.set 2 (.dnew true)) (.cons (.forr (.nm 3) (.seq (.var 1)) (.cons (.forr (.nm 4) (.seq (.call "_law_parts" (.cons (.var 3) .nil))) (.cons (.sti 2 (.var 4) (.int 0)) .nil)) .nil)) (.cons (.ret (.tup (.cons (.var 0) (.cons (.fn .tuple (.cons (.fn .sorted (.cons (.bor 2) .nil)) .nil)) .nil)))) .nil)))
def n_law_family : List Str := ["many", "lots", "found", "lot", "part"]
def p_law_family : List Str := ["many", "lots"]
theorem s_law_family_ok : C8.scC n_law_family p_law_family (C8.fnScope (top 20)) = true := by decide +kernel
theorem c_law_family_ok : chkSs ⟨n_law_family, C8.fnScope (top 20), fun _ => true, false⟩ a_law_family (C8.fnBody (top 20)) = true := by decide +kernel
/-- _law_sides: lot i -/
def a_law_sides : Ss := (.cons (.ret (.lc false (.bin .add (.slc (.bor 0) .no (.yes (.var 1))) (.slc (.bor 0) (.yes (.bin .add (.bor 1) (.int 1))) .no)) (.nm 1) (.rng1 (.fn .len (.cons (.bor 0) .nil))) .no [1])) .nil)
def n_law_sides : List Str := ["lot", "i"]
def p_law_sides : List Str := ["lot"]
theorem s_law_sides_ok : C8.scC n_law_sides p_law_sides (C8.fnScope (top 21)) = true := by decide +kernel
theorem c_law_sides_ok : chkSs ⟨n_law_sides, C8.fnScope (top 21), fun _ => true, false⟩ a_law_sides (C8.fnBody (top 21)) = true := by decide +kernel
/-- _law_is_lot: many value x i -/
def a_law_is_lot : Ss := (.cons (.ifs (.or (.not (.v (.fn (.isi "tuple") (.cons (.bor 1) .nil)))) (.v (.cmp .ne (.lc false (.var 2) (.nm 2) (.seq (.var 1)) (.yes (.or (.not (.v (.call "_law_is_int" (.cons (.var 2) .nil)))) (.not (.v (.chain .le .lt (.int 0) (.bor 2) (.bor 0)))))) [2]) (.lst .nil)))) (.cons (.ret (.bl false)) .nil) .nil) (.cons (.ret (.cmp .eq (.lc false (.var 3) (.nm 3) (.rng2 (.int 1) (.fn .len (.cons (.bor 1) .nil))) (.yes (.not (.v (.cmp .lt (.idx (.bor 1) (.bin .sub (.bor 3) (.int 1))) (.idx (.bor 1) (.bor 3)))))) [3]) (.lst .nil))) .nil))
def n_law_is_lot : List Str := ["many", "value", "x", "i"]
def p_law_is_lot : List Str := ["many", "value"]
theorem s_law_is_lot_ok : C8.scC n_law_is_lot p_law_is_lot (C8.fnScope (top 22)) = true := by decide +kernel
theorem c_law_is_lot_ok : chkSs ⟨n_law_is_lot, C8.fnScope (top 22), fun _ => true, false⟩ a_law_is_lot (C8.fnBody (top 22)) = true := by decide +kernel
/-- _law_is_family: value many lots lot i known side -/
def a_law_is_family : Ss := (.cons (.ifs (.or (.not (.v (.fn (.isi "tuple") (.cons (.bor 0) .nil)))) (.or (.v (.cmp .ne (.fn .len (.cons (.bor 0) .nil)) (.int 2))) (.or (.not (.v (.call "_law_is_int" (.cons (.idx (.bor 0) (.int 0)) .nil)))) (.v (.cmp .lt (.idx (.bor 0) (.int 0)) (.int 0)))))) (.cons (.ret (.bl false)) .nil) .nil) (.cons (.unp (.cons (.nm 1) (.cons (.nm 2) .nil)) (.var 0)) (.cons (.ifs (.or (.not (.v (.fn (.isi "tuple") (.cons (.bor 2) .nil)))) (.v (.cmp .ne (.lc false (.var 3) (.nm 3) (.seq (.var 2)) (.yes (.not (.v (.call "_law_is_lot" (.cons (.var 1) (.cons (.var 3) .nil)))))) [3]) (.lst .nil)))) (.cons (.ret (.bl false)) .nil) .nil) (.cons (.ifs (.v (.cmp .ne (.lc false (.var 4) (.nm 4) (.rng2 (.int 1) (.fn .len (.cons (.bor 2) .nil))) (.yes (.not (.v (.cmp .lt (.idx (.bor 2) (.bin .sub (.bor 4) (.int 1))) (.idx (.bor 2) (.bor 4)))))) [4]) (.lst .nil))) (.cons (.ret (.bl false)) .nil) .nil) (.cons (.set 5 (.dof true (.lc false (.tup (.cons (.var 3) (.cons (.int 0) .nil))) (.nm 3) (.seq (.var 2)) .no [3]))) (.cons (.ret (.cmp .eq (.lc false (.var 3) (.nm 3) (.seq (.var 2)) (.yes (.v (.cmp .ne (.lc false (.var 6) (.nm 6) (.seq (.call "_law_sides" (.cons (.var 3) .nil))) (.yes (.v (.cmp .notin (.bor 6) (.bor 5)))) [6]) (.lst .nil)))) [3]) (.lst .nil))) .nil))))))
def n_law_is_family : List Str := ["value", "many", "lots", "lot", "i", "known", "side"]
def p_law_is_family : List Str := ["value"]
theorem s_law_is_family_ok : C8.scC n_law_is_family p_law_is_family (C8.fnScope (top 23)) = true := by decide +kernel
theorem c_law_is_family_ok : chkSs ⟨n_law_is_family, C8.fnScope (top 23), fun _ => true, false⟩ a_law_is_family (C8.fnBody (top 23)) = true := by decide +kernel
/-- _law_drawn_lots: source many found turn size -/
def a_law_drawn_lots : Ss := (.cons (.set 2 (.lst .nil)) (.cons (.forr (.nm 3) (.rng1 (.calls "_law_pick" (.cons (.var 0) (.cons (.int 7) .nil)))) (.cons (.set 4 (.calls "_law_pick" (.cons (.var 0) (.cons (.bin .add (.fn .min2 (.cons (.bor 1) (.cons (.int 5) .nil))) (.int 1)) .nil)))) (.cons (.app 2 (.fn .tuple (.cons (.fn .sorted (.cons (.slc (.calls "_law_mixed" (.cons (.var 0) (.cons (.rng0 true (.var 1)) .nil))) .no (.yes (.var 4))) .nil)) .nil))) .nil))) (.cons (.ret (.mov 2)) .nil)))
def n_law_drawn_lots : List Str := ["source", "many", "found", "turn", "size"]
def p_law_drawn_lots : List Str := ["source", "many"]
theorem s_law_drawn_lots_ok : C8.scC n_law_drawn_lots p_law_drawn_lots (C8.fnScope (top 24)) = true := by decide +kernel
theorem c_law_drawn_lots_ok : chkSs ⟨n_law_drawn_lots, C8.fnScope (top 24), fun _ => true, false⟩ a_law_drawn_lots (C8.fnBody (top 24)) = true := by decide +kernel
/-- _law_near: source family many lots k way some lot -/
def a_law_near : Ss := (.cons (.unp (.cons (.nm 2) (.cons (.nm 3) .nil)) (.var 1)) (.cons (.par [4, 5] (.cons (.calls "_law_pick" (.cons (.var 0) (.cons (.fn .max2 (.cons (.int 1) (.cons (.fn .len (.cons (.bor 3) .nil)) .nil))) .nil))) (.cons (.calls "_law_pick" (.cons (.var 0) (.cons (.int 9) .nil))) .nil))) (.cons (.set 6 (.lst (.cons (.bin .add (.slc (.bor 3) .no (.yes (.var 4))) (.slc (.bor 3) (.yes (.bin .add (.bor 4) (.int 1))) .no)) (.cons (.bin .add (.slc (.bor 3) .no (.yes (.bin .add (.bor 4) (.int 1)))) (.slc (.bor 3) (.yes (.var 4)) .no)) (.cons (.rev (.bor 3)) (.cons (.slc (.bor 3) (.yes (.int 1)) .no) .nil)))))) (.cons (.set 6 (.bin .add (.bor 6) (.lst (.cons (.bin .add (.bor 3) (.tup (.cons (.tup (.cons (.var 2) .nil)) .nil))) (.cons (.bin .add (.bor 3) (.tup (.cons (.tup (.cons (.bl true) .nil)) .nil))) .nil))))) (.cons (.ifs (.v (.cmp .lt (.bor 5) (.int 6))) (.cons (.ret (.tup (.cons (.var 2) (.cons (.idx (.bor 6) (.bor 5)) .nil)))) .nil) .nil) (.cons (.ret (.idx (.lst (.cons (.tup (.cons (.var 2) (.cons (.fn .list (.cons (.bor 3) .nil)) .nil))) (.cons (.tup (.cons (.bin .sub (.bor 2) (.int 1)) (.cons (.var 3) .nil))) (.cons (.tup (.cons (.var 2) (.cons (.bin .add (.slc (.bor 3) .no (.yes (.var 4))) (.fn .tuple (.cons (.lc false (.fn .list (.cons (.bor 7) .nil)) (.nm 7) (.seq (.slc (.bor 3) (.yes (.var 4)) .no)) .no [7]) .nil))) .nil))) .nil)))) (.bin .sub (.bor 5) (.int 6)))) .nil))))))
def n_law_near : List Str := ["source", "family", "many", "lots", "k", "way", "some", "lot"]
def p_law_near : List Str := ["source", "family"]
theorem s_law_near_ok : C8.scC n_law_near p_law_near (C8.fnScope (top 25)) = true := by decide +kernel
theorem c_law_near_ok : chkSs ⟨n_law_near, C8.fnScope (top 25), fun _ => true, false⟩ a_law_near (C8.fnBody (top 25)) = true := by decide +kernel
/-- _law_in: one other x -/
def a_law_in : Ss := (.cons (.ret (.cmp .eq (.lc false (.var 2) (.nm 2) (.seq (.var 0)) (.yes (.v (.cmp .notin (.bor 2) (.bor 1)))) [2]) (.lst .nil))) .nil)
def n_law_in : List Str := ["one", "other", "x"]
def p_law_in : List Str := ["one", "other"]
theorem s_law_in_ok : C8.scC n_law_in p_law_in (C8.fnScope (top 26)) = true := by decide +kernel
theorem c_law_in_ok : chkSs ⟨n_law_in, C8.fnScope (top 26), fun _ => true, false⟩ a_law_in (C8.fnBody (top 26)) = true := by decide +kernel
/-- law: script source odd lap many lots family held told known great lot one most sizes k top sign c size due values turn value shown -/
def a_law : Ss := (.cons (.set 2 (.lst (.cons .non (.cons (.bl true) (.cons (.bl false) (.cons (.str "x") (.cons (.tup .nil) (.cons (.tup (.cons (.int 0) .nil)) (.cons (.lst (.cons (.int 0) .nil)) (.cons (.dnew false) (.cons (.int 0) (.cons (.int 1) (.cons (.tup (.cons (.int 0) (.cons (.tup .nil) .nil))) (.cons (.tup (.cons (.int 0) (.cons (.tup (.cons (.tup .nil) .nil)) .nil))) (.cons (.tup (.cons (.int 1) (.cons (.tup (.cons (.tup (.cons (.int 0) .nil)) .nil)) .nil))) (.cons (.tup (.cons (.bl true) (.cons (.tup (.cons (.tup .nil) .nil)) .nil))) (.cons (.bin .pow (.int 10) (.int 30)) .nil))))))))))))))))) (.cons (.forr (.nm 3) (.rng1 (.int 3)) (.cons (.set 4 (.calls "_law_of" (.cons (.var 1) (.cons (.lst (.cons (.int 6) (.cons (.int 8) (.cons (.int 5) (.cons (.int 12) (.cons (.int 30) (.cons (.int 3) (.cons (.int 1) (.cons (.int 0) .nil))))))))) .nil)))) (.cons (.set 5 (.calls "_law_drawn_lots" (.cons (.var 1) (.cons (.var 4) .nil)))) (.cons (.par [6, 7] (.cons (.call "_law_family" (.cons (.var 4) (.cons (.var 5) .nil))) (.cons (.fn .repr (.cons (.bor 5) .nil)) .nil))) (.cons (.set 8 (.call "family_of" (.cons (.var 4) (.cons (.ife (.v (.cmp .eq (.calls "_law_pick" (.cons (.var 1) (.cons (.int 2) .nil))) (.int 0))) (.var 5) (.fn .tuple (.cons (.bor 5) .nil))) .nil)))) (.cons (.ifs (.or (.v (.cmp .ne (.fn .repr (.cons (.bor 8) .nil)) (.fn .repr (.cons (.bor 6) .nil)))) (.or (.v (.cmp .ne (.fn .repr (.cons (.bor 5) .nil)) (.bor 7))) (.v (.cmp .isnot (.call "is_family" (.cons (.var 6) .nil)) (.bl true))))) (.cons (.ret (.bl false)) .nil) .nil) (.cons (.set 9 (.idx (.bor 6) (.int 1))) (.cons (.set 10 (.lc false (.var 11) (.nm 11) (.seq (.var 9)) (.yes (.v (.cmp .eq (.lc false (.var 12) (.nm 12) (.seq (.var 9)) (.yes (.and (.v (.cmp .gt (.fn .len (.cons (.bor 12) .nil)) (.fn .len (.cons (.bor 11) .nil)))) (.v (.call "_law_in" (.cons (.var 11) (.cons (.var 12) .nil)))))) [12]) (.lst .nil)))) [11])) (.cons (.set 13 (.fn .max (.cons (.bin .add (.lc false (.fn .len (.cons (.bor 11) .nil)) (.nm 11) (.seq (.var 9)) .no [11]) (.lst (.cons (.bin .sub (.int 0) (.int 1)) .nil))) .nil))) (.cons (.set 14 (.lc false (.fn .len (.cons (.lc false (.var 11) (.nm 11) (.seq (.var 9)) (.yes (.v (.cmp .eq (.fn .len (.cons (.bor 11) .nil)) (.bor 15)))) [11]) .nil)) (.nm 15) (.rng1 (.bin .add (.bor 13) (.int 1))) .no [15])) (.cons (.set 16 (.ife (.and (.v (.cmp .ne (.bor 10) (.lst .nil))) (.v (.cmp .eq (.lc false (.var 11) (.nm 11) (.seq (.var 10)) (.yes (.v (.cmp .ne (.fn .len (.cons (.bor 11) .nil)) (.fn .len (.cons (.idx (.bor 10) (.int 0)) .nil))))) [11]) (.lst .nil)))) (.fn .len (.cons (.idx (.bor 10) (.int 0)) .nil)) .non)) (.cons (.ifs (.v (.cmp .ne (.fn .repr (.cons (.lst (.cons (.call "greatest_lots" (.cons (.var 6) .nil)) (.cons (.call "top_size" (.cons (.var 6) .nil)) .nil))) .nil)) (.fn .repr (.cons (.lst (.cons (.fn .tuple (.cons (.bor 10) .nil)) (.cons (.var 16) .nil))) .nil)))) (.cons (.ret (.bl false)) .nil) .nil) (.cons (.ifs (.v (.cmp .ne (.fn .repr (.cons (.lst (.cons (.call "greatest_size" (.cons (.var 6) .nil)) (.cons (.call "sizes_of" (.cons (.var 6) .nil)) .nil))) .nil)) (.fn .repr (.cons (.lst (.cons (.bin .sub (.fn .len (.cons (.bor 14) .nil)) (.int 1)) (.cons (.fn .tuple (.cons (.bor 14) .nil)) .nil))) .nil)))) (.cons (.ret (.bl false)) .nil) .nil) (.cons (.set 17 (.fn .sum (.cons (.lc false (.ife (.v (.cmp .eq (.bin .fmod (.fn .int (.cons (.bor 15) .nil)) (.int 2)) (.int 0))) (.var 18) (.bin .sub (.int 0) (.bor 18))) (.tp (.cons (.nm 15) (.cons (.nm 18) .nil))) (.enum (.var 14)) .no [15, 18]) .nil))) (.cons (.ifs (.v (.cmp .ne (.fn .repr (.cons (.call "family_sign" (.cons (.var 6) .nil)) .nil)) (.fn .repr (.cons (.bor 17) .nil)))) (.cons (.ret (.bl false)) .nil) .nil) (.cons (.forr (.nm 19) (.rng1 (.bin .add (.fn .len (.cons (.bor 14) .nil)) (.int 1))) (.cons (.set 20 (.fn .tuple (.cons (.lc false (.var 11) (.nm 11) (.seq (.var 9)) (.yes (.v (.cmp .eq (.fn .len (.cons (.bor 11) .nil)) (.bor 19)))) [11]) .nil))) (.cons (.ifs (.v (.cmp .ne (.fn .repr (.cons (.call "lots_of_size" (.cons (.var 6) (.cons (.var 19) .nil))) .nil)) (.fn .repr (.cons (.bor 20) .nil)))) (.cons (.ret (.bl false)) .nil) .nil) .nil))) (.cons (.set 11 (.calls "_law_of" (.cons (.var 1) (.cons (.bin .add (.fn .list (.cons (.bor 9) .nil)) (.lst (.cons (.tup (.cons (.int 0) (.cons (.int 2) (.cons (.int 3) .nil)))) .nil))) .nil)))) (.cons (.ifs (.or (.v (.cmp .ne (.fn .repr (.cons (.call "sides_of" (.cons (.var 11) .nil)) .nil)) (.fn .repr (.cons (.call "_law_sides" (.cons (.var 11) .nil)) .nil)))) (.v (.cmp .ne (.fn .sorted (.cons (.call "parts_of" (.cons (.var 11) .nil)) .nil)) (.fn .sorted (.cons (.call "_law_parts" (.cons (.var 11) .nil)) .nil))))) (.cons (.ret (.bl false)) .nil) .nil) (.cons (.set 21 (.bin .add (.bin .add (.lst (.cons (.var 6) (.cons (.fn .list (.cons (.bor 6) .nil)) (.cons (.bin .add (.bor 6) (.tup (.cons (.int 0) .nil))) .nil)))) (.lc false (.calls "_law_near" (.cons (.var 1) (.cons (.var 6) .nil))) (.nm 22) (.rng1 (.int 14)) .no [22])) (.bor 2))) (.cons (.forr (.nm 23) (.seq (.var 21)) (.cons (.set 24 (.fn .repr (.cons (.bor 23) .nil))) (.cons (.ifs (.or (.v (.cmp .ne (.fn .repr (.cons (.call "is_family" (.cons (.var 23) .nil)) .nil)) (.fn .repr (.cons (.call "_law_is_family" (.cons (.var 23) .nil)) .nil)))) (.v (.cmp .ne (.fn .repr (.cons (.bor 23) .nil)) (.bor 24)))) (.cons (.ret (.bl false)) .nil) .nil) .nil))) (.cons (.forr (.nm 23) (.seq (.bin .add (.bin .add (.fn .list (.cons (.slc (.bor 9) .no (.yes (.int 20))) .nil)) (.lst (.cons (.bin .add (.bor 11) (.tup (.cons (.var 4) .nil))) (.cons (.rev (.bor 11)) (.cons (.bin .add (.bor 11) (.slc (.bor 11) (.yes (.neg (.int 1))) .no)) (.cons (.tup (.cons (.bl true) .nil)) (.cons (.fn .list (.cons (.bor 11) .nil)) .nil))))))) (.bor 2))) (.cons (.ifs (.v (.cmp .ne (.fn .repr (.cons (.call "is_thing_lot_of" (.cons (.var 4) (.cons (.var 23) .nil))) .nil)) (.fn .repr (.cons (.call "_law_is_lot" (.cons (.var 4) (.cons (.var 23) .nil))) .nil)))) (.cons (.ret (.bl false)) .nil) .nil) .nil)) .nil))))))))))))))))))))) (.cons (.ret (.and (.cmp .is (.call "top_size" (.cons (.tup (.cons (.int 3) (.cons (.tup .nil) .nil))) .nil)) .non) (.and (.cmp .eq (.call "greatest_size" (.cons (.tup (.cons (.int 3) (.cons (.tup .nil) .nil))) .nil)) (.neg (.int 1))) (.cmp .eq (.call "family_of" (.cons (.int 2) (.cons (.lst .nil) .nil))) (.tup (.cons (.int 2) (.cons (.tup .nil) .nil))))))) .nil)))
def n_law : List Str := ["script", "source", "odd", "lap", "many", "lots", "family", "held", "told", "known", "great", "lot", "one", "most", "sizes", "k", "top", "sign", "c", "size", "due", "values", "turn", "value", "shown"]
def p_law : List Str := ["script"]
theorem s_law_ok : C8.scC n_law p_law (C8.fnScope (top 27)) = true := by decide +kernel
theorem c_law_ok : lawC ⟨n_law, C8.fnScope (top 27), fun _ => true, true⟩ a_law (C8.fnBody (top 27)) = true := by decide +kernel
def n_src : List Str := ["script", "mixed", "cell"]
theorem s_src_ok : C8.scC n_src ["script"] (C8.fnScope (top 14)) = true := by decide +kernel
theorem c_src_ok : srcC ⟨n_src, C8.fnScope (top 14), fun _ => true, false⟩ (C8.fnBody (top 14)) = true := by decide +kernel
abbrev Ph0 : Fs := Fs.none
abbrev Ph1 : Fs := Ph0.addP "is_thing" 2 (runP Ph0 2 a_is_thing)
abbrev Ph2 : Fs := Ph1.addP "is_thing_lot_of" 2 (runP Ph1 4 a_is_thing_lot_of)
abbrev Ph3 : Fs := Ph2.addP "sides_of" 1 (runP Ph2 2 a_sides_of)
abbrev Ph4 : Fs := Ph3.addP "parts_of" 1 (runP Ph3 4 a_parts_of)
abbrev Ph5 : Fs := Ph4.addP "family_of" 2 (runP Ph4 5 a_family_of)
abbrev Ph6 : Fs := Ph5.addP "is_family" 1 (runP Ph5 5 a_is_family)
abbrev Ph7 : Fs := Ph6.addP "greatest_lots" 1 (runP Ph6 4 a_greatest_lots)
abbrev Ph8 : Fs := Ph7.addP "top_size" 1 (runP Ph7 3 a_top_size)
abbrev Ph9 : Fs := Ph8.addP "lots_of_size" 2 (runP Ph8 3 a_lots_of_size)
abbrev Ph10 : Fs := Ph9.addP "greatest_size" 1 (runP Ph9 2 a_greatest_size)
abbrev Ph11 : Fs := Ph10.addP "sizes_of" 1 (runP Ph10 2 a_sizes_of)
abbrev Ph12 : Fs := Ph11.addP "family_sign" 1 (runP Ph11 2 a_family_sign)
abbrev Ph13 : Fs := Ph12.addS "_law_pick" 2 (runS Ph12 4 a_law_pick)
abbrev Ph14 : Fs := Ph13.addS "_law_of" 2 (runS Ph13 2 a_law_of)
abbrev Ph15 : Fs := Ph14.addS "_law_mixed" 2 (runS Ph14 4 a_law_mixed)
abbrev Ph16 : Fs := Ph15.addP "_law_is_int" 1 (runP Ph15 1 a_law_is_int)
abbrev Ph17 : Fs := Ph16.addP "_law_parts" 1 (runP Ph16 4 a_law_parts)
abbrev Ph18 : Fs := Ph17.addP "_law_family" 2 (runP Ph17 5 a_law_family)
abbrev Ph19 : Fs := Ph18.addP "_law_sides" 1 (runP Ph18 2 a_law_sides)
abbrev Ph20 : Fs := Ph19.addP "_law_is_lot" 2 (runP Ph19 4 a_law_is_lot)
abbrev Ph21 : Fs := Ph20.addP "_law_is_family" 1 (runP Ph20 7 a_law_is_family)
abbrev Ph22 : Fs := Ph21.addS "_law_drawn_lots" 2 (runS Ph21 5 a_law_drawn_lots)
abbrev Ph23 : Fs := Ph22.addS "_law_near" 2 (runS Ph22 8 a_law_near)
abbrev Ph24 : Fs := Ph23.addP "_law_in" 2 (runP Ph23 3 a_law_in)
abbrev Ph : Fs := Ph24
end K82


set_option Elab.async false
set_option linter.all false
set_option maxRecDepth 100000
set_option maxHeartbeats 4000000
set_option pp.maxSteps 600
namespace K82
open PySem PySem.Spec PyProof.Rows L2 Vm

local macro_rules | `(tactic| infer_instance) => `(tactic| simp -dsimp only [q_chain, q_rng0, q_rng0T, q_enum, q_star, q_unp, q_dofK, datO_d, star_t, star_pt, star_l, listOf_l, seqL_lst, seqL_dl, q_int, q_bl, q_non, q_str, q_var, q_bor, q_mov, q_bin, q_neg, q_cmp, q_not, q_and, q_or, q_ife, q_tup, q_lst, q_idx, q_slc, q_rev, q_fn, q_mt, q_lcStep, q_lc, q_dnew, q_dof, q_sg, q_sl, q_sp, q_nil, q_cons, q_oeno, q_oeyes, q_ocno, q_ocyes, q_tv, q_tand, q_tor, q_tnot, q_seq, q_rng1, q_rng2, q_zip, q_zips, outK_nx, outK_ret, outK_brk, outK_cnt, q_snil, q_scons, q_set, q_par, q_ifs, q_forStep, q_forr, q_whl, q_ret, q_retn, q_brk, q_cnt, q_pass, q_sw, retP_ret, retS_ret, ex_some, ex_none, ex_iteN, ex_map, ex_bind,
  rdVar, rdBor, rdMov, frz_d, frz_pt, frz_lst, frz_mat, frz_dct, frz_fdct, frz_src, List.getElem?_cons_zero, List.getElem?_cons_succ, St.set, List.set_cons_zero, List.set_cons_succ, Option.map_some, Option.map_none, Option.bind_some, Option.bind_none, isSrc, sget_left, sget_mixed, sget_turn, sput_left, sput_mixed, sput_turn, vw_d, vw_pt, vw_lst, cmp_lt, cmp_gt, cmp_le, cmp_ge, cmp_eqI, cmp_neI, bin_add, bin_sub, tru_b, boolO, intO, put, puts, slot_d, slot_pt, slot_lst, slot_mat, slot_dct, slot_fdct, List.length_cons, List.length_nil, Nat.zero_le, sl_1, sl_2, sl_3, sl_4, sl_5, sl_6, sl_7, sl_8, sl_9, sl_10, sl_11, sl_12, sl_13, sl_14, sl_15, sl_16, sl_17, sl_18, sl_19, sl_20, sl_21, sl_22, sl_23, sl_24, sl_25, sl_26, sl_27, sl_28, sl_29, sl_30, sl_31, sl_32, sl_33, sl_34, sl_35, sl_36, sl_37, sl_38, sl_39, sl_40, Nat.reduceAdd, Nat.reduceLT, Nat.reduceLeDiff, cmp_eqNil, and_true, true_and, and_self, forall_const, true_implies, false_implies, reduceCtorEq, decide_eq_true_eq, decide_eq_false_iff_not, if_true, if_false, Int.reduceNeg, Option.some.injEq, pr_lenL, pr_lenH, pr_lenT, pr_lenD, pr_abs, pr_intI, pr_intB, pr_all, pr_any, pr_sum, pr_max, pr_min, pr_max2, pr_min2, pr_tupL', pr_tupT, pr_listL, pr_listT, pr_sortL, pr_sortD, cmp_isB, cmp_isnB, tru_i, cmp_neNil, add_L, add_T, slc_L, slc_T, rev_L, rev_T, seqP_pt, seqP_lst, seqP_dl, tupO_dat, tupO_frz, tupO_slot, tupO_free, tupO_vw, vwAll, datAll, dat_d, dat_pt, dat_lst, dat_mat, dat_dct0, implies_true, frzAll, vw, vw0, seqOf_l, seqOf_t, mtTy, List.all_cons, List.all_nil, free_d, free_pt, free_lst, free_dct, free_fdct, Bool.and_self, Bool.and_true, Bool.true_and, idx_list, idx_tup, at_c0, at_c1, clr, asg, asgs, List.length_map, Bool.not_eq_true', beq_self_eq_true, Bool.true_eq_false, Bool.not_eq_false', Bool.not_true, Bool.not_false, Bool.false_eq_true])
/-- what is left of a lot without one thing -/
def sides (a : List Nat) : List (List Nat) := (List.range a.length).map fun k => a.take k ++ a.drop (k + 1)
def partsF (f : List (List Nat)) (x : Nat) : List (List Nat) := f ++ f.map fun p => p ++ [x]
def parts (a : List Nat) : List (List Nat) := a.foldl partsF [[]]
theorem tm_snoc (p : List Nat) (x : Nat) : tm (p ++ [x]) = .tuple (nums p ++ [.int (x : Int)]) := by
  show PyData.tuple (nums (p ++ [x])) = _
  rw [nums_append]
  rfl
theorem parts_snoc (a : List Nat) (x : Nat) : parts (a ++ [x]) = partsF (parts a) x := by
  unfold parts
  rw [List.foldl_append]
  rfl
theorem mem_parts {p : List Nat} : ∀ {a : List Nat}, p ∈ parts a ↔ p.Sublist a := by
  have go : ∀ n : Nat, ∀ a p : List Nat, a.length = n → (p ∈ parts a ↔ p.Sublist a) := by
    intro n
    induction n with
    | zero =>
      intro a p h
      rw [List.length_eq_zero_iff] at h
      subst h
      rw [show parts [] = [[]] from rfl, List.mem_singleton, List.sublist_nil]
    | succ n ih =>
      intro a p h
      obtain ⟨b, x, rfl⟩ : ∃ b x, a = b ++ [x] := ⟨a.dropLast, a.getLast (by intro z; rw [z] at h; simp at h), (List.dropLast_concat_getLast _).symm⟩
      have hb : b.length = n := by rw [List.length_append] at h; simpa using h
      rw [parts_snoc, partsF, List.mem_append, ih b p hb, List.mem_map]
      constructor
      · rintro (h | ⟨q, hq, rfl⟩)
        · exact h.trans (List.sublist_append_left _ _)
        · exact ((ih b q hb).1 hq).append (List.Sublist.refl _)
      · intro h
        obtain ⟨l1, l2, rfl, h1, h2⟩ := List.sublist_append_iff.1 h
        rcases List.sublist_cons_iff.1 h2 with h2 | ⟨r, rfl, h3⟩
        · rw [List.sublist_nil] at h2
          subst h2
          rw [List.append_nil]
          exact .inl h1
        · rw [List.sublist_nil] at h3
          subst h3
          exact .inr ⟨l1, (ih b l1 hb).2 h1, rfl⟩
  intro a
  exact go _ a p rfl
theorem parts_len (a : List Nat) : (parts a).length = 2 ^ a.length := by
  have go : ∀ (a : List Nat) (f : List (List Nat)), (a.foldl partsF f).length = f.length * 2 ^ a.length := by
    intro a
    induction a with
    | nil => intro f; simp
    | cons x a ih =>
      intro f
      rw [List.foldl_cons, ih, partsF, List.length_append, List.length_map, List.length_cons, Nat.pow_succ]
      rw [← Nat.mul_two, Nat.mul_assoc, Nat.mul_comm 2]
  rw [parts, go]
  simp
theorem sides_spec {Φ : Fs} (a : List Nat) (h : a.length ≤ 1000) : runP Φ 2 a_sides_of [.d (tm a)] = some (.lst ((sides a).map tm)) := by
  apply Ex.get
  unfold a_sides_of
  rw [q_runP]
  show Ex (x := evSs Φ _ ⟨[some (.d (tm a)), none], none⟩) _
  infer_instance
  have hb : inBnd ((nums a).length : Int) = true := by
    rw [nums_length]
    simp only [inBnd, Bool.and_eq_true, decide_eq_true_eq]
    omega
  refine ⟨hb, ?_⟩
  rw [rngD0, nums_length, Int.toNat_natCast]
  refine Ex.of (lc_pureM (fun k : Nat => PyData.int (k : Int)) (fun k : Nat => some (.d (tm (a.take k ++ a.drop (k + 1))))) (List.range a.length) fun k hk => ?_) ?_
  · infer_instance
    rw [cut_to, show (k : Int) + 1 = ((k + 1 : Nat) : Int) by omega, cut_from, nums_take, nums_drop, ← nums_append]
    refine ⟨?_, rfl⟩
    rw [nums_length, nums_length, List.length_take, List.length_drop, sizeLine_eq]
    omega
  · rw [filterMap_some]
    infer_instance
    rw [datAll_d (fun k : Nat => tm (a.take k ++ a.drop (k + 1)))]
    infer_instance
    refine ⟨by rw [List.length_range, sizeLine_eq]; omega, ?_⟩
    unfold sides
    rw [List.map_map]
    rfl
theorem parts_spec {Φ : Fs} (a : List Nat) (h : a.length ≤ 10) : runP Φ 4 a_parts_of [.d (tm a)] = some (.lst ((parts a).map tm)) := by
  apply Ex.get
  unfold a_parts_of
  rw [q_runP]
  show Ex (x := evSs Φ _ ⟨[some (.d (tm a)), none, none, none], none⟩) _
  infer_instance
  refine for_pre (fun k : Nat => PyData.int (k : Int)) (fun d st => ∃ c2 c3 : Option O, st = ⟨[some (.d (tm a)), some (.lst ((parts d).map tm)), c2, c3], none⟩) a _ ⟨_, _, rfl⟩ ?_ ?_
  · rintro d x r st e ⟨c2, c3, rfl⟩
    have hd : d.length < 10 := by
      have := congrArg List.length e
      rw [List.length_append, List.length_cons] at this
      omega
    have hp : (parts d).length ≤ 512 := by
      rw [parts_len]
      exact Nat.pow_le_pow_right (by decide) (show d.length ≤ 9 by omega)
    infer_instance
    refine Ex.of (lc_pureM tm (fun p : List Nat => some (.d (tm (p ++ [x])))) (parts d) fun p hq => ?_) ?_
    · infer_instance
      have hl : p.length ≤ 10 := by
        have := (mem_parts.1 hq).length_le
        omega
      refine ⟨by rw [List.length_append, List.length_map, nums_length, sizeLine_eq]; simp only [List.length_cons, List.length_nil]; omega, ?_⟩
      rw [datAll_app _ _ (datAll_ds (nums p)) (show datAll [O.d (.int (x : Int))] = some [.int (x : Int)] from rfl)]
      infer_instance
      rw [tm_snoc]
    · rw [filterMap_some]
      infer_instance
      rw [datAll_d (fun p : List Nat => tm (p ++ [x]))]
      infer_instance
      refine ⟨by rw [sizeLine_eq]; omega, by rw [sizeLine_eq]; omega, ?_⟩
      rw [parts_snoc, partsF, List.map_append, List.map_map]
      exact ⟨_, _, rfl⟩
  · rintro st ⟨c2, c3, rfl⟩
    infer_instance
theorem lawparts_spec {Φ : Fs} (a : List Nat) (h : a.length ≤ 10) : runP Φ 4 a_law_parts [.d (tm a)] = some (.lst ((parts a).map tm)) := by
  apply Ex.get
  unfold a_law_parts
  rw [q_runP]
  show Ex (x := evSs Φ _ ⟨[some (.d (tm a)), none, none, none], none⟩) _
  infer_instance
  refine for_pre (fun k : Nat => PyData.int (k : Int)) (fun d st => ∃ c2 c3 : Option O, st = ⟨[some (.d (tm a)), some (.lst ((parts d).map tm)), c2, c3], none⟩) a _ ⟨_, _, rfl⟩ ?_ ?_
  · rintro d x r st e ⟨c2, c3, rfl⟩
    have hd : d.length < 10 := by
      have := congrArg List.length e
      rw [List.length_append, List.length_cons] at this
      omega
    have hp : (parts d).length ≤ 512 := by
      rw [parts_len]
      exact Nat.pow_le_pow_right (by decide) (show d.length ≤ 9 by omega)
    infer_instance
    refine Ex.of (lc_pureM tm (fun p : List Nat => some (.d (tm (p ++ [x])))) (parts d) fun p hq => ?_) ?_
    · infer_instance
      have hl : p.length ≤ 10 := by
        have := (mem_parts.1 hq).length_le
        omega
      refine ⟨by rw [nums_length, sizeLine_eq]; omega, ?_⟩
      rw [tm_snoc]
    · rw [filterMap_some]
      infer_instance
      rw [datAll_d (fun p : List Nat => tm (p ++ [x]))]
      infer_instance
      refine ⟨by rw [sizeLine_eq]; omega, by rw [sizeLine_eq]; omega, ?_⟩
      rw [parts_snoc, partsF, List.map_append, List.map_map]
      exact ⟨_, _, rfl⟩
  · rintro st ⟨c2, c3, rfl⟩
    infer_instance
end K82


set_option Elab.async false
set_option linter.all false
set_option maxRecDepth 100000
set_option maxHeartbeats 4000000
set_option pp.maxSteps 600
namespace K82
open PySem PySem.Spec PyProof.Rows L2 Vm

local macro_rules | `(tactic| infer_instance) => `(tactic| simp -dsimp only [q_chain, q_rng0, q_rng0T, q_enum, q_star, q_unp, q_dofK, datO_d, star_t, star_pt, star_l, listOf_l, seqL_lst, seqL_dl, q_int, q_bl, q_non, q_str, q_var, q_bor, q_mov, q_bin, q_neg, q_cmp, q_not, q_and, q_or, q_ife, q_tup, q_lst, q_idx, q_slc, q_rev, q_fn, q_mt, q_lcStep, q_lc, q_dnew, q_dof, q_sg, q_sl, q_sp, q_nil, q_cons, q_oeno, q_oeyes, q_ocno, q_ocyes, q_tv, q_tand, q_tor, q_tnot, q_seq, q_rng1, q_rng2, q_zip, q_zips, outK_nx, outK_ret, outK_brk, outK_cnt, q_snil, q_scons, q_set, q_par, q_ifs, q_forStep, q_forr, q_whl, q_ret, q_retn, q_brk, q_cnt, q_pass, q_sw, retP_ret, retS_ret, ex_some, ex_none, ex_iteN, ex_map, ex_bind,
  rdVar, rdBor, rdMov, frz_d, frz_pt, frz_lst, frz_mat, frz_dct, frz_fdct, frz_src, List.getElem?_cons_zero, List.getElem?_cons_succ, St.set, List.set_cons_zero, List.set_cons_succ, Option.map_some, Option.map_none, Option.bind_some, Option.bind_none, isSrc, sget_left, sget_mixed, sget_turn, sput_left, sput_mixed, sput_turn, vw_d, vw_pt, vw_lst, cmp_lt, cmp_gt, cmp_le, cmp_ge, cmp_eqI, cmp_neI, bin_add, bin_sub, tru_b, boolO, intO, put, puts, slot_d, slot_pt, slot_lst, slot_mat, slot_dct, slot_fdct, List.length_cons, List.length_nil, Nat.zero_le, sl_1, sl_2, sl_3, sl_4, sl_5, sl_6, sl_7, sl_8, sl_9, sl_10, sl_11, sl_12, sl_13, sl_14, sl_15, sl_16, sl_17, sl_18, sl_19, sl_20, sl_21, sl_22, sl_23, sl_24, sl_25, sl_26, sl_27, sl_28, sl_29, sl_30, sl_31, sl_32, sl_33, sl_34, sl_35, sl_36, sl_37, sl_38, sl_39, sl_40, Nat.reduceAdd, Nat.reduceLT, Nat.reduceLeDiff, cmp_eqNil, and_true, true_and, and_self, forall_const, true_implies, false_implies, reduceCtorEq, decide_eq_true_eq, decide_eq_false_iff_not, if_true, if_false, Int.reduceNeg, Option.some.injEq, pr_lenL, pr_lenH, pr_lenT, pr_lenD, pr_abs, pr_intI, pr_intB, pr_all, pr_any, pr_sum, pr_max, pr_min, pr_max2, pr_min2, pr_tupL', pr_tupT, pr_listL, pr_listT, pr_sortL, pr_sortD, cmp_isB, cmp_isnB, tru_i, cmp_neNil, add_L, add_T, slc_L, slc_T, rev_L, rev_T, seqP_pt, seqP_lst, seqP_dl, tupO_dat, tupO_frz, tupO_slot, tupO_free, tupO_vw, vwAll, datAll, dat_d, dat_pt, dat_lst, dat_mat, dat_dct0, implies_true, frzAll, vw, vw0, seqOf_l, seqOf_t, mtTy, List.all_cons, List.all_nil, free_d, free_pt, free_lst, free_dct, free_fdct, Bool.and_self, Bool.and_true, Bool.true_and, idx_list, idx_tup, at_c0, at_c1, clr, asg, asgs, List.length_map, Bool.not_eq_true', beq_self_eq_true, Bool.true_eq_false, Bool.not_eq_false', Bool.not_true, Bool.not_false, Bool.false_eq_true])
def allParts (L : List (List Nat)) : List (List Nat) := L.foldl (fun D a => (parts a).foldl ins D) []
def fam (L : List (List Nat)) : List (List Nat) := srtL (allParts L)
abbrev famD (many : Int) (F : List (List Nat)) : PyData := .tuple [.int many, .tuple (F.map tm)]
theorem allParts_snoc (L : List (List Nat)) (a : List Nat) : allParts (L ++ [a]) = (parts a).foldl ins (allParts L) := by
  unfold allParts
  rw [List.foldl_append]
  rfl
theorem mem_allParts {p : List Nat} (L : List (List Nat)) : p ∈ allParts L ↔ ∃ a ∈ L, p.Sublist a := by
  unfold allParts
  have go : ∀ (L D : List (List Nat)), p ∈ L.foldl (fun D a => (parts a).foldl ins D) D ↔ p ∈ D ∨ ∃ a ∈ L, p.Sublist a := by
    intro L
    induction L with
    | nil => intro D; simp
    | cons a L ih =>
      intro D
      rw [List.foldl_cons, ih, mem_insAll, mem_parts, or_assoc]
      simp
  rw [go]
  simp
theorem allParts_nodup (L : List (List Nat)) : (allParts L).Nodup := by
  unfold allParts
  have go : ∀ (L D : List (List Nat)), D.Nodup → (L.foldl (fun D a => (parts a).foldl ins D) D).Nodup := by
    intro L
    induction L with
    | nil => intro D h; exact h
    | cons a L ih => intro D h; exact ih _ (insAll_nodup _ h)
  exact go L [] List.nodup_nil
theorem allParts_len (L : List (List Nat)) (h : ∀ a ∈ L, a.length ≤ 5) : (allParts L).length ≤ L.length * 32 := by
  unfold allParts
  have go : ∀ (L D : List (List Nat)), (∀ a ∈ L, a.length ≤ 5) → (L.foldl (fun D a => (parts a).foldl ins D) D).length ≤ D.length + L.length * 32 := by
    intro L
    induction L with
    | nil => intro D _; simp
    | cons a L ih =>
      intro D h
      rw [List.foldl_cons]
      refine Nat.le_trans (ih _ fun b hb => h b (List.mem_cons_of_mem _ hb)) ?_
      have h1 := insAll_len (parts a) D
      have h2 : (parts a).length ≤ 32 := by
        rw [parts_len]
        exact Nat.pow_le_pow_right (by decide) (h a List.mem_cons_self)
      rw [List.length_cons]
      omega
  have := go L [] h
  simpa using this
theorem mem_fam {p : List Nat} {L : List (List Nat)} : p ∈ fam L ↔ ∃ a ∈ L, p.Sublist a := by
  unfold fam
  rw [mem_srtL, mem_allParts]
theorem fam_sorted (L : List (List Nat)) : (fam L).Pairwise fun a b => zs a < zs b := srtL_sorted (allParts_nodup L)
theorem fam_len (L : List (List Nat)) (h : ∀ a ∈ L, a.length ≤ 5) : (fam L).length ≤ L.length * 32 := by
  unfold fam
  rw [(srtL_perm _).length_eq]
  exact allParts_len L h

theorem family_spec {Φ Φ' : Fs} (hp : Φ.p "parts_of" = some (1, runP Φ' 4 a_parts_of)) (many : Int) (L : List (List Nat)) (oL : O) {d : PyData} (hd : oL.dat = some d) (hs : seqOf d = some (L.map tm)) (hf : oL.frz = some oL) (hl : L.length ≤ 6) (h5 : ∀ a ∈ L, a.length ≤ 5) :
    runP Φ 5 a_family_of [.d (.int many), oL] = some (.d (famD many (fam L))) := by
  apply Ex.get
  unfold a_family_of
  rw [q_runP]
  show Ex (x := evSs Φ _ ⟨[some (.d (.int many)), some oL, none, none, none], none⟩) _
  infer_instance
  rw [hf]
  infer_instance
  rw [hd]
  infer_instance
  rw [hs]
  infer_instance
  have lenD : ∀ d2 : List (List Nat), d2.length ≤ 6 → (∀ a ∈ d2, a.length ≤ 5) → (allParts d2).length ≤ 192 := fun d2 h1 h2 => Nat.le_trans (allParts_len d2 h2) (by omega)
  refine for_pre tm (fun d2 st => ∃ c3 c4 : Option O, st = ⟨[some (.d (.int many)), some oL, some (.dct true (kvL (.bool true) (allParts d2))), c3, c4], none⟩) L _ ⟨_, _, rfl⟩ ?_ ?_
  · rintro d2 a r st e ⟨c3, c4, rfl⟩
    have ha : a.length ≤ 5 := h5 a (by rw [e]; exact List.mem_append_right _ List.mem_cons_self)
    have hd2 : d2.length ≤ 6 := by
      have := congrArg List.length e
      rw [List.length_append, List.length_cons] at this
      omega
    have h52 : ∀ a ∈ d2, a.length ≤ 5 := fun b hb => h5 b (by rw [e]; exact List.mem_append_left _ hb)
    infer_instance
    rw [q_call hp]
    infer_instance
    rw [ex_eq (parts_spec a (by omega))]
    infer_instance
    have hpl : (parts a).length ≤ 32 := by
      rw [parts_len]
      exact Nat.pow_le_pow_right (by decide) ha
    refine for_pre tm (fun e2 st => ∃ c4 : Option O, st = ⟨[some (.d (.int many)), some oL, some (.dct true (kvL (.bool true) (e2.foldl ins (allParts d2)))), some (.d (tm a)), c4], none⟩) (parts a) _ ⟨_, rfl⟩ ?_ ?_
    · rintro e2 p r2 st e3 ⟨c4, rfl⟩
      have he2 : e2.length ≤ 32 := by
        have := congrArg List.length e3
        rw [List.length_append, List.length_cons] at this
        omega
      infer_instance
      rw [q_sti _ _ _ _ ⟨_, rfl⟩]
      infer_instance
      rw [stAt_kvL rfl rfl (by
        have h1 := insAll_len e2 (allParts d2)
        have h2 := lenD d2 hd2 h52
        rw [sizeLine_eq]
        omega)]
      infer_instance
      rw [List.foldl_append]
      exact ⟨_, rfl⟩
    · rintro st ⟨c4, rfl⟩
      infer_instance
      rw [allParts_snoc]
      exact ⟨_, _, rfl⟩
  · rintro st ⟨c3, c4, rfl⟩
    infer_instance
    rw [kvL_keys, sortable_tms, srtL_tm]
    infer_instance
    rfl

theorem lawfamily_spec {Φ Φ' : Fs} (hp : Φ.p "_law_parts" = some (1, runP Φ' 4 a_law_parts)) (many : Int) (L : List (List Nat)) (oL : O) {d : PyData} (hd : oL.dat = some d) (hs : seqOf d = some (L.map tm)) (hf : oL.frz = some oL) (hl : L.length ≤ 6) (h5 : ∀ a ∈ L, a.length ≤ 5) :
    runP Φ 5 a_law_family [.d (.int many), oL] = some (.d (famD many (fam L))) := by
  apply Ex.get
  unfold a_law_family
  rw [q_runP]
  show Ex (x := evSs Φ _ ⟨[some (.d (.int many)), some oL, none, none, none], none⟩) _
  infer_instance
  rw [hf]
  infer_instance
  rw [hd]
  infer_instance
  rw [hs]
  infer_instance
  have lenD : ∀ d2 : List (List Nat), d2.length ≤ 6 → (∀ a ∈ d2, a.length ≤ 5) → (allParts d2).length ≤ 192 := fun d2 h1 h2 => Nat.le_trans (allParts_len d2 h2) (by omega)
  refine for_pre tm (fun d2 st => ∃ c3 c4 : Option O, st = ⟨[some (.d (.int many)), some oL, some (.dct true (kvL (.int 0) (allParts d2))), c3, c4], none⟩) L _ ⟨_, _, rfl⟩ ?_ ?_
  · rintro d2 a r st e ⟨c3, c4, rfl⟩
    have ha : a.length ≤ 5 := h5 a (by rw [e]; exact List.mem_append_right _ List.mem_cons_self)
    have hd2 : d2.length ≤ 6 := by
      have := congrArg List.length e
      rw [List.length_append, List.length_cons] at this
      omega
    have h52 : ∀ a ∈ d2, a.length ≤ 5 := fun b hb => h5 b (by rw [e]; exact List.mem_append_left _ hb)
    infer_instance
    rw [q_call hp]
    infer_instance
    rw [ex_eq (lawparts_spec a (by omega))]
    infer_instance
    have hpl : (parts a).length ≤ 32 := by
      rw [parts_len]
      exact Nat.pow_le_pow_right (by decide) ha
    refine for_pre tm (fun e2 st => ∃ c4 : Option O, st = ⟨[some (.d (.int many)), some oL, some (.dct true (kvL (.int 0) (e2.foldl ins (allParts d2)))), some (.d (tm a)), c4], none⟩) (parts a) _ ⟨_, rfl⟩ ?_ ?_
    · rintro e2 p r2 st e3 ⟨c4, rfl⟩
      have he2 : e2.length ≤ 32 := by
        have := congrArg List.length e3
        rw [List.length_append, List.length_cons] at this
        omega
      infer_instance
      rw [q_sti _ _ _ _ ⟨_, rfl⟩]
      infer_instance
      rw [stAt_kvL rfl rfl (by
        have h1 := insAll_len e2 (allParts d2)
        have h2 := lenD d2 hd2 h52
        rw [sizeLine_eq]
        omega)]
      infer_instance
      rw [List.foldl_append]
      exact ⟨_, rfl⟩
    · rintro st ⟨c4, rfl⟩
      infer_instance
      rw [allParts_snoc]
      exact ⟨_, _, rfl⟩
  · rintro st ⟨c3, c4, rfl⟩
    infer_instance
    rw [kvL_keys, sortable_tms, srtL_tm]
    infer_instance
    rfl
end K82


set_option Elab.async false
set_option linter.all false
set_option maxRecDepth 100000
set_option maxHeartbeats 4000000
set_option pp.maxSteps 600
namespace K82
open PySem PySem.Spec PyProof.Rows L2 Vm

local macro_rules | `(tactic| infer_instance) => `(tactic| simp -dsimp only [q_chain, q_rng0, q_rng0T, q_enum, q_star, q_unp, q_dofK, datO_d, star_t, star_pt, star_l, listOf_l, seqL_lst, seqL_dl, q_int, q_bl, q_non, q_str, q_var, q_bor, q_mov, q_bin, q_neg, q_cmp, q_not, q_and, q_or, q_ife, q_tup, q_lst, q_idx, q_slc, q_rev, q_fn, q_mt, q_lcStep, q_lc, q_dnew, q_dof, q_sg, q_sl, q_sp, q_nil, q_cons, q_oeno, q_oeyes, q_ocno, q_ocyes, q_tv, q_tand, q_tor, q_tnot, q_seq, q_rng1, q_rng2, q_zip, q_zips, outK_nx, outK_ret, outK_brk, outK_cnt, q_snil, q_scons, q_set, q_par, q_ifs, q_forStep, q_forr, q_whl, q_ret, q_retn, q_brk, q_cnt, q_pass, q_sw, retP_ret, retS_ret, ex_some, ex_none, ex_iteN, ex_map, ex_bind,
  rdVar, rdBor, rdMov, frz_d, frz_pt, frz_lst, frz_mat, frz_dct, frz_fdct, frz_src, List.getElem?_cons_zero, List.getElem?_cons_succ, St.set, List.set_cons_zero, List.set_cons_succ, Option.map_some, Option.map_none, Option.bind_some, Option.bind_none, isSrc, sget_left, sget_mixed, sget_turn, sput_left, sput_mixed, sput_turn, vw_d, vw_pt, vw_lst, cmp_lt, cmp_gt, cmp_le, cmp_ge, cmp_eqI, cmp_neI, bin_add, bin_sub, tru_b, boolO, intO, put, puts, slot_d, slot_pt, slot_lst, slot_mat, slot_dct, slot_fdct, List.length_cons, List.length_nil, Nat.zero_le, sl_1, sl_2, sl_3, sl_4, sl_5, sl_6, sl_7, sl_8, sl_9, sl_10, sl_11, sl_12, sl_13, sl_14, sl_15, sl_16, sl_17, sl_18, sl_19, sl_20, sl_21, sl_22, sl_23, sl_24, sl_25, sl_26, sl_27, sl_28, sl_29, sl_30, sl_31, sl_32, sl_33, sl_34, sl_35, sl_36, sl_37, sl_38, sl_39, sl_40, Nat.reduceAdd, Nat.reduceLT, Nat.reduceLeDiff, cmp_eqNil, and_true, true_and, and_self, forall_const, true_implies, false_implies, reduceCtorEq, decide_eq_true_eq, decide_eq_false_iff_not, if_true, if_false, Int.reduceNeg, Option.some.injEq, pr_lenL, pr_lenH, pr_lenT, pr_lenD, pr_abs, pr_intI, pr_intB, pr_all, pr_any, pr_sum, pr_max, pr_min, pr_max2, pr_min2, pr_tupL', pr_tupT, pr_listL, pr_listT, pr_sortL, pr_sortD, cmp_isB, cmp_isnB, tru_i, cmp_neNil, add_L, add_T, slc_L, slc_T, rev_L, rev_T, seqP_pt, seqP_lst, seqP_dl, tupO_dat, tupO_frz, tupO_slot, tupO_free, tupO_vw, vwAll, datAll, dat_d, dat_pt, dat_lst, dat_mat, dat_dct0, implies_true, frzAll, vw, vw0, seqOf_l, seqOf_t, mtTy, List.all_cons, List.all_nil, free_d, free_pt, free_lst, free_dct, free_fdct, Bool.and_self, Bool.and_true, Bool.true_and, idx_list, idx_tup, at_c0, at_c1, clr, asg, asgs, List.length_map, Bool.not_eq_true', beq_self_eq_true, Bool.true_eq_false, Bool.not_eq_false', Bool.not_true, Bool.not_false, Bool.false_eq_true])
def isThing (m : Int) : PyData → Bool
  | .int i => decide (0 ≤ i) && decide (i < m)
  | _ => false
def gt (xs : List PyData) (k : Nat) : PyData := (xs[k]?).getD .none
def adj (xs : List PyData) : Bool := (List.range (xs.length - 1)).all fun k => PySem.W.dataLt (gt xs k) (gt xs (k + 1))
def isLot (m : Int) : PyData → Bool
  | .tuple xs => xs.all (isThing m) && adj xs
  | _ => false
theorem gt_at {xs : List PyData} {k : Nat} (h : k < xs.length) : xs[k]? = some (gt xs k) := by
  unfold gt
  rw [List.getElem?_eq_getElem h]
  rfl
theorem gt_mem {xs : List PyData} {k : Nat} (h : k < xs.length) : gt xs k ∈ xs := by
  unfold gt
  rw [List.getElem?_eq_getElem h]
  exact List.getElem_mem h
theorem cmp_leX {x y : PyData} (h : cmpOk x y = true) : cmpSem .le (.d x) (.d y) = some (!PySem.W.dataLt y x) := by
  show (if cmpOk x y = true then _ else _) = _
  rw [if_pos h]
theorem cmp_ltX {x y : PyData} (h : cmpOk x y = true) : cmpSem .lt (.d x) (.d y) = some (PySem.W.dataLt x y) := by
  show (if cmpOk x y = true then _ else _) = _
  rw [if_pos h]
theorem adj_eq (xs : List PyData) : ((List.range (xs.length - 1)).filter fun k => decide (PySem.W.dataLt (gt xs k) (gt xs (k + 1)) = false)).isEmpty = adj xs := by
  unfold adj
  rw [Bool.eq_iff_iff]
  simp [List.isEmpty_iff, List.filter_eq_nil_iff]
theorem toNat_len (xs : List PyData) : ((xs.length : Int) - 1).toNat = xs.length - 1 := by omega
theorem bnd_len {m : Nat} (h : m ≤ sizeLine) : (inBnd 1 && inBnd (m : Int)) = true := by
  rw [sizeLine_eq] at h
  simp only [inBnd, Bool.and_eq_true, decide_eq_true_eq]
  omega
theorem thing_int {m : Int} {x : PyData} (h : isThing m x = true) : ∃ i, x = .int i ∧ 0 ≤ i ∧ i < m := by
  cases x <;> simp_all [isThing]
theorem things_cmp {m : Int} {xs : List PyData} (h : ∀ x ∈ xs, isThing m x = true) {j k : Nat} (hj : j < xs.length) (hk : k < xs.length) : cmpOk (gt xs j) (gt xs k) = true := by
  obtain ⟨i, e, _⟩ := thing_int (h _ (gt_mem hj))
  obtain ⟨i2, e2, _⟩ := thing_int (h _ (gt_mem hk))
  rw [e, e2]
  exact cmpOk_int i i2
theorem thing_spec {Φ : Fs} (m : Int) {B : Nat} (x : PyData) (h : okV B x = true) : runP Φ 2 a_is_thing [.d x, .d (.int m)] = some (.d (.bool (isThing m x))) := by
  apply Ex.get
  unfold a_is_thing
  rw [q_runP]
  show Ex (x := evSs Φ _ ⟨[some (.d x), some (.d (.int m))], none⟩) _
  infer_instance
  rw [isi_int h]
  infer_instance
  refine ⟨fun h1 => ?_, fun h1 => ?_⟩
  · rw [isi_bl h]
    infer_instance
    refine ⟨fun h2 => ?_, fun h2 => ?_⟩
    · obtain ⟨i, rfl⟩ : ∃ i, x = .int i := by cases x <;> simp_all [isZ, isBl]
      infer_instance
      refine ⟨fun h3 => ?_, fun h3 => ?_⟩
      · simp [isThing, Int.not_lt.1 h3]
      · simp [isThing]; omega
    · cases x <;> simp_all [isZ, isBl, isThing]
  · cases x <;> simp_all [isZ, isBl, isThing]
theorem isint_spec {Φ : Fs} {B : Nat} (x : PyData) (h : okV B x = true) : runP Φ 1 a_law_is_int [.d x] = some (.d (.bool (isZ x))) := by
  apply Ex.get
  unfold a_law_is_int
  rw [q_runP]
  show Ex (x := evSs Φ _ ⟨[some (.d x)], none⟩) _
  infer_instance
  rw [isi_int h]
  infer_instance
  refine ⟨fun h1 => ?_, fun h1 => ?_⟩
  · rw [isi_bl h]
    infer_instance
    cases x <;> simp_all [isZ, isBl]
  · cases x <;> simp_all [isZ, isBl]
theorem lot_spec {Φ Φ' : Fs} (ht : Φ.p "is_thing" = some (2, runP Φ' 2 a_is_thing)) (m : Int) {B : Nat} (x : PyData) (h : okV B x = true) (hl : x.bulk ≤ sizeLine) : runP Φ 4 a_is_thing_lot_of [.d (.int m), .d x] = some (.d (.bool (isLot m x))) := by
  apply Ex.get
  unfold a_is_thing_lot_of
  rw [q_runP]
  show Ex (x := evSs Φ _ ⟨[some (.d (.int m)), some (.d x), none, none], none⟩) _
  infer_instance
  rw [isi_tup h]
  infer_instance
  rcases isTup_or x with ⟨xs, rfl⟩ | hx
  · rw [show isTup (.tuple xs) = true from rfl]
    infer_instance
    have hlen := bulk_len hl
    rw [lc_pure (fun y => some (.d (.bool (isThing m y)))) xs fun y hy => ?_]
    · infer_instance
      rw [filterMap_some, datAll_d (fun y => PyData.bool (isThing m y))]
      infer_instance
      rw [boolsOf_map]
      infer_instance
      refine ⟨hlen, fun h1 => ?_, fun h1 => ?_⟩
      · refine congrArg (fun b => O.d (PyData.bool b)) ?_
        have h1 : xs.all (isThing m) = false := by rw [← h1, List.all_map]; rfl
        show _ = (xs.all (isThing m) && adj xs)
        rw [h1]; rfl
      · have h1 : xs.all (isThing m) = true := by rw [← h1, List.all_map]; rfl
        have hall := List.all_eq_true.1 h1
        refine ⟨bnd_len hlen, ?_⟩
        rw [rngD_eq, toNat_len]
        refine Ex.of (lc_pureM (fun k : Nat => PyData.int (1 + (k : Int))) (fun k : Nat => if PySem.W.dataLt (gt xs k) (gt xs (k + 1)) = false then some (.d (.int (1 + (k : Int)))) else none) (List.range (xs.length - 1)) fun k hk => ?_) ?_
        · have hk : k < xs.length - 1 := List.mem_range.1 hk
          infer_instance
          rw [show (1 : Int) + (k : Int) = ((k + 1 : Nat) : Int) by omega, atI_nat (gt_at (show k + 1 < xs.length by omega))]
          infer_instance
          rw [show ((k + 1 : Nat) : Int) - 1 = (k : Int) by omega, atI_nat (gt_at (show k < xs.length by omega))]
          infer_instance
          rw [cmp_leX (things_cmp hall (by omega) (by omega))]
          infer_instance
          refine ⟨fun q => ?_, fun q => ?_⟩
          · simp [q]
          · simp [q]
        · infer_instance
          rw [filterMap_if (fun k : Nat => PySem.W.dataLt (gt xs k) (gt xs (k + 1)) = false)]
          rw [datAll_d (fun k : Nat => PyData.int (1 + (k : Int)))]
          infer_instance
          refine ⟨?_, ?_⟩
          · refine Nat.le_trans (List.length_filter_le _ _) ?_
            rw [List.length_range]
            omega
          · rw [List.isEmpty_map, adj_eq]
            show _ = O.d (PyData.bool (xs.all (isThing m) && adj xs))
            rw [h1, Bool.true_and]
    · have oky := okV_tup h y hy
      infer_instance
      rw [q_call ht]
      infer_instance
      rw [ex_eq (thing_spec m y oky)]
      infer_instance
  · rw [hx]
    infer_instance
    cases x <;> first | rfl | cases hx
theorem lawlot_spec {Φ Φ' : Fs} (hi : Φ.p "_law_is_int" = some (1, runP Φ' 1 a_law_is_int)) (m : Int) {B : Nat} (x : PyData) (h : okV B x = true) (hl : x.bulk ≤ sizeLine) : runP Φ 4 a_law_is_lot [.d (.int m), .d x] = some (.d (.bool (isLot m x))) := by
  apply Ex.get
  unfold a_law_is_lot
  rw [q_runP]
  show Ex (x := evSs Φ _ ⟨[some (.d (.int m)), some (.d x), none, none], none⟩) _
  infer_instance
  rw [isi_tup h]
  infer_instance
  rcases isTup_or x with ⟨xs, rfl⟩ | hx
  · rw [show isTup (.tuple xs) = true from rfl]
    infer_instance
    have hlen := bulk_len hl
    rw [lc_pure (fun y => if isThing m y = false then some (.d y) else none) xs fun y hy => ?_]
    · rw [filterMap_if (fun y => isThing m y = false)]
      infer_instance
      rw [datAll_d (fun y => y)]
      infer_instance
      rw [List.map_id']
      refine ⟨Nat.le_trans (List.length_filter_le _ _) hlen, fun hb => ?_, fun hb => ?_⟩
      · obtain ⟨y, hy⟩ := List.isEmpty_eq_false_iff_exists_mem.1 hb
        obtain ⟨h1, h2⟩ := List.mem_filter.1 hy
        refine congrArg (fun b => O.d (PyData.bool b)) ?_
        show _ = (xs.all (isThing m) && adj xs)
        rw [show xs.all (isThing m) = false from List.all_eq_false.2 ⟨y, h1, by rw [of_decide_eq_true h2]; decide⟩]
        rfl
      · have hall : ∀ y ∈ xs, isThing m y = true := fun y hy => by
          rw [List.isEmpty_iff, List.filter_eq_nil_iff] at hb
          have := hb y hy
          simpa using this
        refine ⟨bnd_len hlen, ?_⟩
        rw [rngD_eq, toNat_len]
        refine Ex.of (lc_pureM (fun k : Nat => PyData.int (1 + (k : Int))) (fun k : Nat => if PySem.W.dataLt (gt xs k) (gt xs (k + 1)) = false then some (.d (.int (1 + (k : Int)))) else none) (List.range (xs.length - 1)) fun k hk => ?_) ?_
        · have hk : k < xs.length - 1 := List.mem_range.1 hk
          infer_instance
          rw [show (1 : Int) + (k : Int) = ((k + 1 : Nat) : Int) by omega, show ((k + 1 : Nat) : Int) - 1 = (k : Int) by omega, atI_nat (gt_at (show k < xs.length by omega))]
          infer_instance
          rw [atI_nat (gt_at (show k + 1 < xs.length by omega))]
          infer_instance
          rw [cmp_ltX (things_cmp hall (by omega) (by omega))]
          infer_instance
          refine ⟨fun q => ?_, fun q => ?_⟩
          · simp [q]
          · simp [q]
        · infer_instance
          rw [filterMap_if (fun k : Nat => PySem.W.dataLt (gt xs k) (gt xs (k + 1)) = false)]
          rw [datAll_d (fun k : Nat => PyData.int (1 + (k : Int)))]
          infer_instance
          refine ⟨?_, ?_⟩
          · refine Nat.le_trans (List.length_filter_le _ _) ?_
            rw [List.length_range]
            omega
          · rw [List.isEmpty_map, adj_eq]
            show _ = O.d (PyData.bool (xs.all (isThing m) && adj xs))
            rw [List.all_eq_true.2 hall, Bool.true_and]
    · have oky := okV_tup h y hy
      infer_instance
      rw [q_call hi]
      infer_instance
      rw [ex_eq (isint_spec y oky)]
      infer_instance
      refine ⟨fun h1 => ?_, fun h1 => ?_⟩
      · have : isThing m y = false := by cases y <;> simp_all [isThing, isZ]
        rw [this]; simp
      · obtain ⟨i, rfl⟩ : ∃ i, y = .int i := by cases y <;> simp_all [isZ]
        infer_instance
        refine ⟨fun h2 => ⟨fun h3 => ?_, fun h3 => ?_⟩, fun h2 => ?_⟩
        · have : isThing m (.int i) = false := by simp [isThing]; omega
          rw [if_pos this]
        · have : ¬ isThing m (.int i) = false := by simp [isThing]; omega
          rw [if_neg this]
        · have : isThing m (.int i) = false := by simp [isThing]; omega
          rw [if_pos this]
  · rw [hx]
    infer_instance
    cases x <;> first | rfl | cases hx
end K82


set_option Elab.async false
set_option linter.all false
set_option maxRecDepth 100000
set_option maxHeartbeats 4000000
set_option pp.maxSteps 600
namespace K82
open PySem PySem.Spec PyProof.Rows L2 Vm

local macro_rules | `(tactic| infer_instance) => `(tactic| simp -dsimp only [q_chain, q_rng0, q_rng0T, q_enum, q_star, q_unp, q_dofK, datO_d, star_t, star_pt, star_l, listOf_l, seqL_lst, seqL_dl, q_int, q_bl, q_non, q_str, q_var, q_bor, q_mov, q_bin, q_neg, q_cmp, q_not, q_and, q_or, q_ife, q_tup, q_lst, q_idx, q_slc, q_rev, q_fn, q_mt, q_lcStep, q_lc, q_dnew, q_dof, q_sg, q_sl, q_sp, q_nil, q_cons, q_oeno, q_oeyes, q_ocno, q_ocyes, q_tv, q_tand, q_tor, q_tnot, q_seq, q_rng1, q_rng2, q_zip, q_zips, outK_nx, outK_ret, outK_brk, outK_cnt, q_snil, q_scons, q_set, q_par, q_ifs, q_forStep, q_forr, q_whl, q_ret, q_retn, q_brk, q_cnt, q_pass, q_sw, retP_ret, retS_ret, ex_some, ex_none, ex_iteN, ex_map, ex_bind,
  rdVar, rdBor, rdMov, frz_d, frz_pt, frz_lst, frz_mat, frz_dct, frz_fdct, frz_src, List.getElem?_cons_zero, List.getElem?_cons_succ, St.set, List.set_cons_zero, List.set_cons_succ, Option.map_some, Option.map_none, Option.bind_some, Option.bind_none, isSrc, sget_left, sget_mixed, sget_turn, sput_left, sput_mixed, sput_turn, vw_d, vw_pt, vw_lst, cmp_lt, cmp_gt, cmp_le, cmp_ge, cmp_eqI, cmp_neI, bin_add, bin_sub, tru_b, boolO, intO, put, puts, slot_d, slot_pt, slot_lst, slot_mat, slot_dct, slot_fdct, List.length_cons, List.length_nil, Nat.zero_le, sl_1, sl_2, sl_3, sl_4, sl_5, sl_6, sl_7, sl_8, sl_9, sl_10, sl_11, sl_12, sl_13, sl_14, sl_15, sl_16, sl_17, sl_18, sl_19, sl_20, sl_21, sl_22, sl_23, sl_24, sl_25, sl_26, sl_27, sl_28, sl_29, sl_30, sl_31, sl_32, sl_33, sl_34, sl_35, sl_36, sl_37, sl_38, sl_39, sl_40, Nat.reduceAdd, Nat.reduceLT, Nat.reduceLeDiff, cmp_eqNil, and_true, true_and, and_self, forall_const, true_implies, false_implies, reduceCtorEq, decide_eq_true_eq, decide_eq_false_iff_not, if_true, if_false, Int.reduceNeg, Option.some.injEq, pr_lenL, pr_lenH, pr_lenT, pr_lenD, pr_abs, pr_intI, pr_intB, pr_all, pr_any, pr_sum, pr_max, pr_min, pr_max2, pr_min2, pr_tupL', pr_tupT, pr_listL, pr_listT, pr_sortL, pr_sortD, cmp_isB, cmp_isnB, tru_i, cmp_neNil, add_L, add_T, slc_L, slc_T, rev_L, rev_T, seqP_pt, seqP_lst, seqP_dl, tupO_dat, tupO_frz, tupO_slot, tupO_free, tupO_vw, vwAll, datAll, dat_d, dat_pt, dat_lst, dat_mat, dat_dct0, implies_true, frzAll, vw, vw0, seqOf_l, seqOf_t, mtTy, List.all_cons, List.all_nil, free_d, free_pt, free_lst, free_dct, free_fdct, Bool.and_self, Bool.and_true, Bool.true_and, idx_list, idx_tup, at_c0, at_c1, clr, asg, asgs, List.length_map, Bool.not_eq_true', beq_self_eq_true, Bool.true_eq_false, Bool.not_eq_false', Bool.not_true, Bool.not_false, Bool.false_eq_true])
def fb_5 : Ss := (.cons (.ret (.cmp .eq (.lc false (.var 1) (.nm 1) (.seq (.idx (.bor 0) (.int 1))) (.yes (.v (.cmp .ne (.lc false (.var 4) (.nm 4) (.seq (.call "sides_of" (.cons (.var 1) .nil))) (.yes (.v (.cmp .notin (.bor 4) (.bor 3)))) [4]) (.lst .nil)))) [1]) (.lst .nil))) .nil)
def fb_4 : Ss := (.cons (.set 3 (.dof true (.lc false (.tup (.cons (.var 1) (.cons (.bl true) .nil))) (.nm 1) (.seq (.idx (.bor 0) (.int 1))) .no [1]))) fb_5)
def fb_3 : Ss := (.cons (.ifs (.v (.cmp .ne (.lc false (.var 2) (.nm 2) (.rng2 (.int 1) (.fn .len (.cons (.idx (.bor 0) (.int 1)) .nil))) (.yes (.v (.cmp .le (.idx (.idx (.bor 0) (.int 1)) (.bor 2)) (.idx (.idx (.bor 0) (.int 1)) (.bin .sub (.bor 2) (.int 1)))))) [2]) (.lst .nil))) (.cons (.ret (.bl false)) .nil) .nil) fb_4)
def fb_2 : Ss := (.cons (.ifs (.not (.v (.fn .all (.cons (.lc false (.call "is_thing_lot_of" (.cons (.idx (.bor 0) (.int 0)) (.cons (.var 1) .nil))) (.nm 1) (.seq (.idx (.bor 0) (.int 1))) .no [1]) .nil)))) (.cons (.ret (.bl false)) .nil) .nil) fb_3)
def fb_1 : Ss := (.cons (.ifs (.or (.not (.v (.fn (.isi "int") (.cons (.idx (.bor 0) (.int 0)) .nil)))) (.or (.v (.fn (.isi "bool") (.cons (.idx (.bor 0) (.int 0)) .nil))) (.v (.cmp .lt (.idx (.bor 0) (.int 0)) (.int 0))))) (.cons (.ret (.bl false)) .nil) .nil) fb_2)
def fb_0 : Ss := (.cons (.ifs (.or (.not (.v (.fn (.isi "tuple") (.cons (.bor 0) .nil)))) (.or (.v (.cmp .ne (.fn .len (.cons (.bor 0) .nil)) (.int 2))) (.not (.v (.fn (.isi "tuple") (.cons (.idx (.bor 0) (.int 1)) .nil)))))) (.cons (.ret (.bl false)) .nil) .nil) fb_1)
theorem fb_eq : a_is_family = fb_0 := rfl
def gb_5 : Ss := (.cons (.ret (.cmp .eq (.lc false (.var 3) (.nm 3) (.seq (.var 2)) (.yes (.v (.cmp .ne (.lc false (.var 6) (.nm 6) (.seq (.call "_law_sides" (.cons (.var 3) .nil))) (.yes (.v (.cmp .notin (.bor 6) (.bor 5)))) [6]) (.lst .nil)))) [3]) (.lst .nil))) .nil)
def gb_4 : Ss := (.cons (.set 5 (.dof true (.lc false (.tup (.cons (.var 3) (.cons (.int 0) .nil))) (.nm 3) (.seq (.var 2)) .no [3]))) gb_5)
def gb_3 : Ss := (.cons (.ifs (.v (.cmp .ne (.lc false (.var 4) (.nm 4) (.rng2 (.int 1) (.fn .len (.cons (.bor 2) .nil))) (.yes (.not (.v (.cmp .lt (.idx (.bor 2) (.bin .sub (.bor 4) (.int 1))) (.idx (.bor 2) (.bor 4)))))) [4]) (.lst .nil))) (.cons (.ret (.bl false)) .nil) .nil) gb_4)
def gb_2 : Ss := (.cons (.ifs (.or (.not (.v (.fn (.isi "tuple") (.cons (.bor 2) .nil)))) (.v (.cmp .ne (.lc false (.var 3) (.nm 3) (.seq (.var 2)) (.yes (.not (.v (.call "_law_is_lot" (.cons (.var 1) (.cons (.var 3) .nil)))))) [3]) (.lst .nil)))) (.cons (.ret (.bl false)) .nil) .nil) gb_3)
def gb_1 : Ss := (.cons (.unp (.cons (.nm 1) (.cons (.nm 2) .nil)) (.var 0)) gb_2)
def gb_0 : Ss := (.cons (.ifs (.or (.not (.v (.fn (.isi "tuple") (.cons (.bor 0) .nil)))) (.or (.v (.cmp .ne (.fn .len (.cons (.bor 0) .nil)) (.int 2))) (.or (.not (.v (.call "_law_is_int" (.cons (.idx (.bor 0) (.int 0)) .nil)))) (.v (.cmp .lt (.idx (.bor 0) (.int 0)) (.int 0)))))) (.cons (.ret (.bl false)) .nil) .nil) gb_1)
theorem gb_eq : a_law_is_family = gb_0 := rfl

/-- all sides of all lots are among them -/
def clos (L : List (List Nat)) : Bool := L.all fun a => (sides a).all fun s => decide (s ∈ L)
open Classical in
noncomputable def closP (ls : List PyData) : Bool := decide (∃ L : List (List Nat), ls = L.map tm ∧ clos L = true)
theorem map_tm_inj : ∀ {L M : List (List Nat)}, L.map tm = M.map tm → L = M
  | [], [], _ => rfl
  | [], _ :: _, h => by cases h
  | _ :: _, [], h => by cases h
  | a :: L, b :: M, h => by
    rw [List.map_cons, List.map_cons, List.cons.injEq] at h
    rw [tm_inj h.1, map_tm_inj h.2]
open Classical in
theorem closP_tm (L : List (List Nat)) : closP (L.map tm) = clos L := by
  unfold closP
  rw [Bool.eq_iff_iff, decide_eq_true_eq]
  exact ⟨fun ⟨M, e, h⟩ => by rw [map_tm_inj e]; exact h, fun h => ⟨L, rfl, h⟩⟩
noncomputable def famB : PyData → Bool
  | .tuple [.int n, .tuple ls] => decide (0 ≤ n) && (ls.all (isLot n) && (adj ls && closP ls))
  | _ => false
theorem lot_nums {m : Int} {x : PyData} (h : isLot m x = true) : ∃ a : List Nat, x = tm a := by
  cases x with
  | tuple xs =>
    have h : (xs.all (isThing m) && adj xs) = true := h
    rw [Bool.and_eq_true, List.all_eq_true] at h
    have go : ∀ ys : List PyData, (∀ y ∈ ys, isThing m y = true) → ∃ ks : List Nat, ys = nums ks := by
      intro ys
      induction ys with
      | nil => exact fun _ => ⟨[], rfl⟩
      | cons y ys ih =>
        intro hy
        obtain ⟨ks, rfl⟩ := ih fun z hz => hy z (List.mem_cons_of_mem _ hz)
        obtain ⟨i, rfl, h0, _⟩ := thing_int (hy y List.mem_cons_self)
        refine ⟨i.toNat :: ks, ?_⟩
        show _ = PyData.int _ :: nums ks
        rw [Int.toNat_of_nonneg h0]
    obtain ⟨ks, rfl⟩ := go xs h.1
    exact ⟨ks, rfl⟩
  | _ => simp [isLot] at h
theorem lots_nums {m : Int} : ∀ {ls : List PyData}, (∀ x ∈ ls, isLot m x = true) → ∃ L : List (List Nat), ls = L.map tm
  | [], _ => ⟨[], rfl⟩
  | x :: ls, h => by
    obtain ⟨a, rfl⟩ := lot_nums (h x List.mem_cons_self)
    obtain ⟨L, rfl⟩ := lots_nums (ls := ls) fun y hy => h y (List.mem_cons_of_mem _ hy)
    exact ⟨a :: L, rfl⟩
theorem lots_cmp {L : List (List Nat)} {j k : Nat} (hj : j < (L.map tm).length) (hk : k < (L.map tm).length) : cmpOk (gt (L.map tm) j) (gt (L.map tm) k) = true := by
  obtain ⟨a, _, e⟩ := List.mem_map.1 (gt_mem hj)
  obtain ⟨b, _, e2⟩ := List.mem_map.1 (gt_mem hk)
  rw [← e, ← e2]
  exact cmpOk_tm a b
theorem pair_or (xs : List PyData) : (∃ a b, xs = [a, b]) ∨ xs.length ≠ 2 := by
  match xs with
  | [] => simp
  | [_] => simp
  | [a, b] => exact .inl ⟨a, b, rfl⟩
  | _ :: _ :: _ :: _ => simp
theorem famB_no {xs : List PyData} (h : xs.length ≠ 2) : famB (.tuple xs) = false := by
  unfold famB
  split
  · next e => cases e; simp at h
  · rfl
theorem clos_len {L : List (List Nat)} {v : PyData} (hv : v.bulk ≤ 0) : True := trivial
theorem bulk_tm (a : List Nat) : (tm a).bulk = a.length := by
  show (PyData.tuple (nums a)).bulk = _
  rw [PyData.bulk]
  induction a with
  | nil => rfl
  | cons x a ih =>
    show PyData.bulkAll (PyData.int (x : Int) :: nums a) = _
    rw [PyData.bulkAll, ih, PyData.bulk, List.length_cons]
    omega
theorem close_end (L : List (List Nat)) : (L.filter fun a => decide (((sides a).filter fun s => decide (¬ s ∈ L)).isEmpty = false)).isEmpty = clos L := by
  unfold clos
  rw [Bool.eq_iff_iff]
  simp [List.isEmpty_iff, List.filter_eq_nil_iff]

theorem isfam_spec {Φ Φ1 Φ2 : Fs} (hL : Φ.p "is_thing_lot_of" = some (2, runP Φ1 4 a_is_thing_lot_of)) (hT : Φ1.p "is_thing" = some (2, runP Φ2 2 a_is_thing)) {Φ3 : Fs} (hS : Φ.p "sides_of" = some (1, runP Φ3 2 a_sides_of)) {B : Nat} (x : PyData) (h : okV B x = true) (hl : x.bulk ≤ 100000) (hsm : ∀ xs ls, x = .tuple xs → ls ∈ xs → ∀ ys, ls = .tuple ys → ∀ y ∈ ys, ∀ zs, y = .tuple zs → zs.length ≤ 1000) :
    runP Φ 5 a_is_family [.d x] = some (.d (.bool (famB x))) := by
  apply Ex.get
  rw [fb_eq]
  rw [q_runP]
  show Ex (x := evSs Φ _ ⟨[some (.d x), none, none, none, none], none⟩) _
  unfold fb_0
  infer_instance
  rw [isi_tup h]
  infer_instance
  rcases isTup_or x with ⟨xs, rfl⟩ | hx
  · rw [show isTup (.tuple xs) = true from rfl]
    infer_instance
    rcases pair_or xs with ⟨v0, v1, rfl⟩ | h2
    · refine ⟨fun z => absurd rfl z, fun _ => ?_⟩
      have ok0 := okV_tup h v0 List.mem_cons_self
      have ok1 := okV_tup h v1 (List.mem_cons_of_mem _ List.mem_cons_self)
      infer_instance
      rw [isi_tup ok1]
      infer_instance
      refine ⟨fun h3 => ?_, fun h3 => ?_⟩
      · refine congrArg (fun b => O.d (PyData.bool b)) ?_
        cases v1 <;> first | (cases h3; done) | (unfold famB; split <;> first | rfl | (next e => cases e))
      · obtain ⟨ls, rfl⟩ : ∃ ls, v1 = .tuple ls := (isTup_or v1).elim id fun z => by rw [z] at h3; cases h3
        unfold fb_1
        infer_instance
        rw [isi_int ok0]
        infer_instance
        refine ⟨fun h4 => ?_, fun h4 => ?_⟩
        · refine congrArg (fun b => O.d (PyData.bool b)) ?_
          cases v0 <;> simp_all [isZ, isBl, famB]
        · rw [isi_bl ok0]
          infer_instance
          refine ⟨fun h5 => ?_, fun h5 => ?_⟩
          · refine congrArg (fun b => O.d (PyData.bool b)) ?_
            cases v0 <;> simp_all [isZ, isBl, famB]
          · obtain ⟨n, rfl⟩ : ∃ i, v0 = .int i := by cases v0 <;> simp_all [isZ, isBl]
            infer_instance
            refine ⟨fun h6 => ?_, fun h6 => ?_⟩
            · refine congrArg (fun b => O.d (PyData.bool b)) ?_
              have h7 : decide (0 ≤ n) = false := decide_eq_false (by omega)
              rw [show famB (.tuple [.int n, .tuple ls]) = (decide (0 ≤ n) && (ls.all (isLot n) && (adj ls && closP ls))) from rfl, h7]
              rfl
            · have hn : decide (0 ≤ n) = true := decide_eq_true (by omega)
              have eF : famB (.tuple [.int n, .tuple ls]) = (ls.all (isLot n) && (adj ls && closP ls)) := by
                show (decide (0 ≤ n) && _) = _
                rw [hn, Bool.true_and]
              rw [eF]
              have hls : ls.length ≤ 100000 := by
                have := bulk_mem (x := .tuple ls) (List.mem_cons_of_mem _ List.mem_cons_self) hl
                exact bulk_len this
              have hsz : ls.length ≤ sizeLine := by rw [sizeLine_eq]; omega
              unfold fb_2
              infer_instance
              rw [lc_pure (fun y => some (.d (.bool (isLot n y)))) ls fun y hy => ?_]
              · infer_instance
                rw [filterMap_some, datAll_d (fun y => PyData.bool (isLot n y))]
                infer_instance
                rw [boolsOf_map]
                infer_instance
                refine ⟨hsz, fun g1 => ?_, fun g1 => ?_⟩
                · have g1 : ls.all (isLot n) = false := by rw [← g1, List.all_map]; rfl
                  rw [g1]; rfl
                · have g1 : ls.all (isLot n) = true := by rw [← g1, List.all_map]; rfl
                  rw [g1, Bool.true_and]
                  obtain ⟨L, rfl⟩ := lots_nums (List.all_eq_true.1 g1)
                  have hLl : L.length ≤ 100000 := by rw [List.length_map] at hls; exact hls
                  unfold fb_3
                  infer_instance
                  have hsz2 : L.length ≤ sizeLine := by rw [sizeLine_eq]; omega
                  refine ⟨bnd_len hsz2, ?_⟩
                  rw [show ((L.length : Int) - 1).toNat = L.length - 1 by omega, rngD_eq]
                  refine Ex.of (lc_pureM (fun k : Nat => PyData.int (1 + (k : Int))) (fun k : Nat => if PySem.W.dataLt (gt (L.map tm) k) (gt (L.map tm) (k + 1)) = false then some (.d (.int (1 + (k : Int)))) else none) (List.range (L.length - 1)) fun k hk => ?_) ?_
                  · have hk : k < L.length - 1 := List.mem_range.1 hk
                    have k1 : k < (L.map tm).length := by rw [List.length_map]; omega
                    have k2 : k + 1 < (L.map tm).length := by rw [List.length_map]; omega
                    infer_instance
                    rw [show (1 : Int) + (k : Int) = ((k + 1 : Nat) : Int) by omega, atI_nat (gt_at k2)]
                    infer_instance
                    rw [show ((k + 1 : Nat) : Int) - 1 = (k : Int) by omega, atI_nat (gt_at k1)]
                    infer_instance
                    rw [cmp_leX (lots_cmp k2 k1)]
                    infer_instance
                    refine ⟨fun q => ?_, fun q => ?_⟩
                    · simp [q]
                    · simp [q]
                  · infer_instance
                    rw [filterMap_if (fun k : Nat => PySem.W.dataLt (gt (L.map tm) k) (gt (L.map tm) (k + 1)) = false)]
                    rw [datAll_d (fun k : Nat => PyData.int (1 + (k : Int)))]
                    infer_instance
                    rw [List.isEmpty_map]
                    have ea := adj_eq (L.map tm)
                    rw [List.length_map] at ea
                    rw [ea]
                    refine ⟨?_, fun q => ?_, fun q => ?_⟩
                    · refine Nat.le_trans (List.length_filter_le _ _) ?_
                      rw [List.length_range]
                      omega
                    · rw [q]; rfl
                    · rw [q, Bool.true_and, closP_tm]
                      unfold fb_4
                      infer_instance
                      refine Ex.of (lc_pureM tm (fun a : List Nat => some (.d (.tuple [tm a, .bool true]))) L fun a ha => ?_) ?_
                      · infer_instance
                      · rw [filterMap_some]
                        infer_instance
                        rw [datAll_d (fun a : List Nat => PyData.tuple [tm a, .bool true])]
                        infer_instance
                        refine ⟨hsz2, ?_⟩
                        rw [pairsOf_lots]
                        infer_instance
                        rw [show dictOf true (L.map fun k => (tm k, PyData.bool true)) [] = some (kvL (.bool true) (L.foldl ins [])) from dictOf_lots (.bool true) L []]
                        infer_instance
                        unfold fb_5
                        infer_instance
                        have mm : ∀ s : List Nat, (s ∈ L.foldl ins []) ↔ s ∈ L := fun s => by rw [mem_insAll]; simp
                        refine Ex.of (lc_pureM tm (fun a : List Nat => if ((sides a).filter fun s => decide (¬ s ∈ L)).isEmpty = false then some (.d (tm a)) else none) L fun a ha => ?_) ?_
                        · have hal : a.length ≤ 1000 := by
                            have := hsm _ (.tuple (L.map tm)) rfl (List.mem_cons_of_mem _ List.mem_cons_self) _ rfl (tm a) (List.mem_map.2 ⟨a, ha, rfl⟩) _ rfl
                            rw [nums_length] at this
                            exact this
                          infer_instance
                          rw [q_call hS]
                          infer_instance
                          rw [ex_eq (sides_spec a hal)]
                          infer_instance
                          refine Ex.of (lc_pureM tm (fun s : List Nat => if ¬ s ∈ L then some (.d (tm s)) else none) (sides a) fun s hs => ?_) ?_
                          · infer_instance
                            rw [cmp_notinL]
                            infer_instance
                            refine ⟨fun q => ?_, fun q => ?_⟩
                            · rw [if_pos (fun z => q ((mm s).2 z))]
                            · rw [if_neg (fun z => z ((mm s).1 q))]
                          · infer_instance
                            rw [filterMap_if (fun s : List Nat => ¬ s ∈ L), datAll_d tm]
                            infer_instance
                            rw [List.isEmpty_map]
                            refine ⟨?_, fun q => ?_, fun q => ?_⟩
                            · refine Nat.le_trans (List.length_filter_le _ _) ?_
                              unfold sides
                              rw [List.length_map, List.length_range, sizeLine_eq]
                              omega
                            · rw [if_pos q]
                            · rw [if_neg (by rw [q]; decide)]
                        · infer_instance
                          rw [filterMap_if (fun a : List Nat => ((sides a).filter fun s => decide (¬ s ∈ L)).isEmpty = false), datAll_d tm]
                          infer_instance
                          rw [List.isEmpty_map, close_end]
                          refine ⟨Nat.le_trans (List.length_filter_le _ _) hsz2, rfl⟩
              · have oky := okV_tup ok1 y hy
                infer_instance
                rw [q_call hL]
                infer_instance
                rw [ex_eq (lot_spec hT n y oky (Nat.le_trans (bulk_mem hy (bulk_mem (x := .tuple ls) (List.mem_cons_of_mem _ List.mem_cons_self) hl)) (by rw [sizeLine_eq]; omega)))]
                infer_instance
    · refine ⟨fun _ => ?_, fun z => absurd ?_ h2⟩
      · rw [famB_no h2]
      · omega
  · rw [hx]
    infer_instance
    cases x <;> first | rfl | cases hx

theorem lawsides_spec {Φ : Fs} (a : List Nat) (h : a.length ≤ 1000) : runP Φ 2 a_law_sides [.d (tm a)] = some (.lst ((sides a).map tm)) := sides_spec a h
theorem lawisfam_spec {Φ Φ1 Φ2 Φ4 : Fs} (hI : Φ.p "_law_is_int" = some (1, runP Φ4 1 a_law_is_int)) (hL : Φ.p "_law_is_lot" = some (2, runP Φ1 4 a_law_is_lot)) (hT : Φ1.p "_law_is_int" = some (1, runP Φ2 1 a_law_is_int)) {Φ3 : Fs} (hS : Φ.p "_law_sides" = some (1, runP Φ3 2 a_law_sides)) {B : Nat} (x : PyData) (h : okV B x = true) (hl : x.bulk ≤ 100000) (hsm : ∀ xs ls, x = .tuple xs → ls ∈ xs → ∀ ys, ls = .tuple ys → ∀ y ∈ ys, ∀ zs, y = .tuple zs → zs.length ≤ 1000) :
    runP Φ 7 a_law_is_family [.d x] = some (.d (.bool (famB x))) := by
  apply Ex.get
  rw [gb_eq]
  rw [q_runP]
  show Ex (x := evSs Φ _ ⟨[some (.d x), none, none, none, none, none, none], none⟩) _
  unfold gb_0
  infer_instance
  rw [isi_tup h]
  infer_instance
  rcases isTup_or x with ⟨xs, rfl⟩ | hx
  · rw [show isTup (.tuple xs) = true from rfl]
    infer_instance
    rcases pair_or xs with ⟨v0, v1, rfl⟩ | h2
    · refine ⟨fun z => absurd rfl z, fun _ => ?_⟩
      have ok0 := okV_tup h v0 List.mem_cons_self
      have ok1 := okV_tup h v1 (List.mem_cons_of_mem _ List.mem_cons_self)
      rw [q_call hI]
      infer_instance
      rw [ex_eq (isint_spec v0 ok0)]
      infer_instance
      refine ⟨fun h4 => ?_, fun h4 => ?_⟩
      · refine congrArg (fun b => O.d (PyData.bool b)) ?_
        cases v0 <;> simp_all [isZ, famB]
      · obtain ⟨n, rfl⟩ : ∃ i, v0 = .int i := by cases v0 <;> simp_all [isZ]
        infer_instance
        refine ⟨fun h6 => ?_, fun h6 => ?_⟩
        · have h7 : decide (0 ≤ n) = false := decide_eq_false (by omega)
          refine congrArg (fun b => O.d (PyData.bool b)) ?_
          cases v1 <;> simp [famB, h7]
        · unfold gb_1
          infer_instance
          unfold gb_2
          infer_instance
          rw [isi_tup ok1]
          infer_instance
          rcases isTup_or v1 with ⟨ls, rfl⟩ | h3
          · rw [show isTup (.tuple ls) = true from rfl]
            infer_instance
            have hn : decide (0 ≤ n) = true := decide_eq_true (by omega)
            have eF : famB (.tuple [.int n, .tuple ls]) = (ls.all (isLot n) && (adj ls && closP ls)) := by
              show (decide (0 ≤ n) && _) = _
              rw [hn, Bool.true_and]
            rw [eF]
            have hls : ls.length ≤ 100000 := by
              have := bulk_mem (x := .tuple ls) (List.mem_cons_of_mem _ List.mem_cons_self) hl
              exact bulk_len this
            have hsz : ls.length ≤ sizeLine := by rw [sizeLine_eq]; omega
            rw [lc_pure (fun y => if isLot n y = false then some (.d y) else none) ls fun y hy => ?_]
            · rw [filterMap_if (fun y => isLot n y = false)]
              infer_instance
              rw [datAll_d (fun y => y)]
              infer_instance
              rw [List.map_id']
              refine ⟨Nat.le_trans (List.length_filter_le _ _) hsz, fun g1 => ?_, fun g1 => ?_⟩
              · obtain ⟨y, hy⟩ := List.isEmpty_eq_false_iff_exists_mem.1 g1
                obtain ⟨k1, k2⟩ := List.mem_filter.1 hy
                rw [show ls.all (isLot n) = false from List.all_eq_false.2 ⟨y, k1, by rw [of_decide_eq_true k2]; decide⟩]
                rfl
              · have g1 : ls.all (isLot n) = true := by
                  rw [List.isEmpty_iff, List.filter_eq_nil_iff] at g1
                  rw [List.all_eq_true]
                  intro y hy
                  have := g1 y hy
                  simpa using this
                rw [g1, Bool.true_and]
                obtain ⟨L, rfl⟩ := lots_nums (List.all_eq_true.1 g1)
                have hLl : L.length ≤ 100000 := by rw [List.length_map] at hls; exact hls
                unfold gb_3
                infer_instance
                have hsz2 : L.length ≤ sizeLine := by rw [sizeLine_eq]; omega
                refine ⟨bnd_len hsz2, ?_⟩
                rw [show ((L.length : Int) - 1).toNat = L.length - 1 by omega, rngD_eq]
                refine Ex.of (lc_pureM (fun k : Nat => PyData.int (1 + (k : Int))) (fun k : Nat => if PySem.W.dataLt (gt (L.map tm) k) (gt (L.map tm) (k + 1)) = false then some (.d (.int (1 + (k : Int)))) else none) (List.range (L.length - 1)) fun k hk => ?_) ?_
                · have hk : k < L.length - 1 := List.mem_range.1 hk
                  have k1 : k < (L.map tm).length := by rw [List.length_map]; omega
                  have k2 : k + 1 < (L.map tm).length := by rw [List.length_map]; omega
                  infer_instance
                  rw [show (1 : Int) + (k : Int) = ((k + 1 : Nat) : Int) by omega, show ((k + 1 : Nat) : Int) - 1 = (k : Int) by omega, atI_nat (gt_at k1)]
                  infer_instance
                  rw [atI_nat (gt_at k2)]
                  infer_instance
                  rw [cmp_ltX (lots_cmp k1 k2)]
                  infer_instance
                  refine ⟨fun q => ?_, fun q => ?_⟩
                  · simp [q]
                  · simp [q]
                · infer_instance
                  rw [filterMap_if (fun k : Nat => PySem.W.dataLt (gt (L.map tm) k) (gt (L.map tm) (k + 1)) = false)]
                  rw [datAll_d (fun k : Nat => PyData.int (1 + (k : Int)))]
                  infer_instance
                  rw [List.isEmpty_map]
                  have ea := adj_eq (L.map tm)
                  rw [List.length_map] at ea
                  rw [ea]
                  refine ⟨?_, fun q => ?_, fun q => ?_⟩
                  · refine Nat.le_trans (List.length_filter_le _ _) ?_
                    rw [List.length_range]
                    omega
                  · rw [q]; rfl
                  · rw [q, Bool.true_and, closP_tm]
                    unfold gb_4
                    infer_instance
                    refine Ex.of (lc_pureM tm (fun a : List Nat => some (.d (.tuple [tm a, .int 0]))) L fun a ha => ?_) ?_
                    · infer_instance
                    · rw [filterMap_some]
                      infer_instance
                      rw [datAll_d (fun a : List Nat => PyData.tuple [tm a, .int 0])]
                      infer_instance
                      refine ⟨hsz2, ?_⟩
                      rw [pairsOf_lots]
                      infer_instance
                      rw [show dictOf true (L.map fun k => (tm k, PyData.int 0)) [] = some (kvL (.int 0) (L.foldl ins [])) from dictOf_lots (.int 0) L []]
                      infer_instance
                      unfold gb_5
                      infer_instance
                      have mm : ∀ s : List Nat, (s ∈ L.foldl ins []) ↔ s ∈ L := fun s => by rw [mem_insAll]; simp
                      refine Ex.of (lc_pureM tm (fun a : List Nat => if ((sides a).filter fun s => decide (¬ s ∈ L)).isEmpty = false then some (.d (tm a)) else none) L fun a ha => ?_) ?_
                      · have hal : a.length ≤ 1000 := by
                          have := hsm _ (.tuple (L.map tm)) rfl (List.mem_cons_of_mem _ List.mem_cons_self) _ rfl (tm a) (List.mem_map.2 ⟨a, ha, rfl⟩) _ rfl
                          rw [nums_length] at this
                          exact this
                        infer_instance
                        rw [q_call hS]
                        infer_instance
                        rw [ex_eq (lawsides_spec a hal)]
                        infer_instance
                        refine Ex.of (lc_pureM tm (fun s : List Nat => if ¬ s ∈ L then some (.d (tm s)) else none) (sides a) fun s hs => ?_) ?_
                        · infer_instance
                          rw [cmp_notinL]
                          infer_instance
                          refine ⟨fun q => ?_, fun q => ?_⟩
                          · rw [if_pos (fun z => q ((mm s).2 z))]
                          · rw [if_neg (fun z => z ((mm s).1 q))]
                        · infer_instance
                          rw [filterMap_if (fun s : List Nat => ¬ s ∈ L), datAll_d tm]
                          infer_instance
                          rw [List.isEmpty_map]
                          refine ⟨?_, fun q => ?_, fun q => ?_⟩
                          · refine Nat.le_trans (List.length_filter_le _ _) ?_
                            unfold sides
                            rw [List.length_map, List.length_range, sizeLine_eq]
                            omega
                          · rw [if_pos q]
                          · rw [if_neg (by rw [q]; decide)]
                      · infer_instance
                        rw [filterMap_if (fun a : List Nat => ((sides a).filter fun s => decide (¬ s ∈ L)).isEmpty = false), datAll_d tm]
                        infer_instance
                        rw [List.isEmpty_map, close_end]
                        refine ⟨Nat.le_trans (List.length_filter_le _ _) hsz2, rfl⟩
            · have oky := okV_tup ok1 y hy
              infer_instance
              rw [q_call hL]
              infer_instance
              rw [ex_eq (lawlot_spec hT n y oky (Nat.le_trans (bulk_mem hy (bulk_mem (x := .tuple ls) (List.mem_cons_of_mem _ List.mem_cons_self) hl)) (by rw [sizeLine_eq]; omega)))]
              infer_instance
              refine ⟨fun q => ?_, fun q => ?_⟩
              · rw [if_pos q]
              · rw [if_neg (by rw [q]; decide)]
          · rw [h3]
            infer_instance
            refine congrArg (fun b => O.d (PyData.bool b)) ?_
            cases v1 <;> first | (cases h3; done) | (unfold famB; split <;> first | rfl | (next e => cases e))
    · refine ⟨fun _ => ?_, fun z => absurd ?_ h2⟩
      · rw [famB_no h2]
      · omega
  · rw [hx]
    infer_instance
    cases x <;> first | rfl | cases hx
end K82


set_option Elab.async false
set_option linter.all false
set_option maxRecDepth 100000
set_option maxHeartbeats 4000000
set_option pp.maxSteps 600
namespace K82
open PySem PySem.Spec PyProof.Rows L2 Vm

local macro_rules | `(tactic| infer_instance) => `(tactic| simp -dsimp only [q_chain, q_rng0, q_rng0T, q_enum, q_star, q_unp, q_dofK, datO_d, star_t, star_pt, star_l, listOf_l, seqL_lst, seqL_dl, q_int, q_bl, q_non, q_str, q_var, q_bor, q_mov, q_bin, q_neg, q_cmp, q_not, q_and, q_or, q_ife, q_tup, q_lst, q_idx, q_slc, q_rev, q_fn, q_mt, q_lcStep, q_lc, q_dnew, q_dof, q_sg, q_sl, q_sp, q_nil, q_cons, q_oeno, q_oeyes, q_ocno, q_ocyes, q_tv, q_tand, q_tor, q_tnot, q_seq, q_rng1, q_rng2, q_zip, q_zips, outK_nx, outK_ret, outK_brk, outK_cnt, q_snil, q_scons, q_set, q_par, q_ifs, q_forStep, q_forr, q_whl, q_ret, q_retn, q_brk, q_cnt, q_pass, q_sw, retP_ret, retS_ret, ex_some, ex_none, ex_iteN, ex_map, ex_bind,
  rdVar, rdBor, rdMov, frz_d, frz_pt, frz_lst, frz_mat, frz_dct, frz_fdct, frz_src, List.getElem?_cons_zero, List.getElem?_cons_succ, St.set, List.set_cons_zero, List.set_cons_succ, Option.map_some, Option.map_none, Option.bind_some, Option.bind_none, isSrc, sget_left, sget_mixed, sget_turn, sput_left, sput_mixed, sput_turn, vw_d, vw_pt, vw_lst, cmp_lt, cmp_gt, cmp_le, cmp_ge, cmp_eqI, cmp_neI, bin_add, bin_sub, tru_b, boolO, intO, put, puts, slot_d, slot_pt, slot_lst, slot_mat, slot_dct, slot_fdct, List.length_cons, List.length_nil, Nat.zero_le, sl_1, sl_2, sl_3, sl_4, sl_5, sl_6, sl_7, sl_8, sl_9, sl_10, sl_11, sl_12, sl_13, sl_14, sl_15, sl_16, sl_17, sl_18, sl_19, sl_20, sl_21, sl_22, sl_23, sl_24, sl_25, sl_26, sl_27, sl_28, sl_29, sl_30, sl_31, sl_32, sl_33, sl_34, sl_35, sl_36, sl_37, sl_38, sl_39, sl_40, Nat.reduceAdd, Nat.reduceLT, Nat.reduceLeDiff, cmp_eqNil, and_true, true_and, and_self, forall_const, true_implies, false_implies, reduceCtorEq, decide_eq_true_eq, decide_eq_false_iff_not, if_true, if_false, Int.reduceNeg, Option.some.injEq, pr_lenL, pr_lenH, pr_lenT, pr_lenD, pr_abs, pr_intI, pr_intB, pr_all, pr_any, pr_sum, pr_max, pr_min, pr_max2, pr_min2, pr_tupL', pr_tupT, pr_listL, pr_listT, pr_sortL, pr_sortD, cmp_isB, cmp_isnB, tru_i, cmp_neNil, add_L, add_T, slc_L, slc_T, rev_L, rev_T, seqP_pt, seqP_lst, seqP_dl, tupO_dat, tupO_frz, tupO_slot, tupO_free, tupO_vw, vwAll, datAll, dat_d, dat_pt, dat_lst, dat_mat, dat_dct0, implies_true, frzAll, vw, vw0, seqOf_l, seqOf_t, mtTy, List.all_cons, List.all_nil, free_d, free_pt, free_lst, free_dct, free_fdct, Bool.and_self, Bool.and_true, Bool.true_and, idx_list, idx_tup, at_c0, at_c1, clr, asg, asgs, List.length_map, Bool.not_eq_true', beq_self_eq_true, Bool.true_eq_false, Bool.not_eq_false', Bool.not_true, Bool.not_false, Bool.false_eq_true])
theorem sides_len {a s : List Nat} (h : s ∈ sides a) : s.length + 1 = a.length := by
  unfold sides at h
  obtain ⟨k, hk, rfl⟩ := List.mem_map.1 h
  have hk := List.mem_range.1 hk
  rw [List.length_append, List.length_take, List.length_drop]
  omega
theorem sides_length (a : List Nat) : (sides a).length = a.length := by unfold sides; rw [List.length_map, List.length_range]
/-- a family's lots, not too many, not too long -/
structure Fam (F : List (List Nat)) : Prop where
  few : F.length ≤ 1000
  short : ∀ a ∈ F, a.length ≤ 100
def allSides (F : List (List Nat)) : List (List Nat) := F.foldl (fun D a => (sides a).foldl ins D) []
theorem allSides_snoc (L : List (List Nat)) (a : List Nat) : allSides (L ++ [a]) = (sides a).foldl ins (allSides L) := by
  unfold allSides
  rw [List.foldl_append]
  rfl
theorem mem_allSides {p : List Nat} (L : List (List Nat)) : p ∈ allSides L ↔ ∃ a ∈ L, p ∈ sides a := by
  unfold allSides
  have go : ∀ (L D : List (List Nat)), p ∈ L.foldl (fun D a => (sides a).foldl ins D) D ↔ p ∈ D ∨ ∃ a ∈ L, p ∈ sides a := by
    intro L
    induction L with
    | nil => intro D; simp
    | cons a L ih =>
      intro D
      rw [List.foldl_cons, ih, mem_insAll, or_assoc]
      simp
  rw [go]
  simp
theorem allSides_len (L : List (List Nat)) (h : ∀ a ∈ L, a.length ≤ 100) : (allSides L).length ≤ L.length * 100 := by
  unfold allSides
  have go : ∀ (L D : List (List Nat)), (∀ a ∈ L, a.length ≤ 100) → (L.foldl (fun D a => (sides a).foldl ins D) D).length ≤ D.length + L.length * 100 := by
    intro L
    induction L with
    | nil => intro D _; simp
    | cons a L ih =>
      intro D h
      rw [List.foldl_cons]
      refine Nat.le_trans (ih _ fun b hb => h b (List.mem_cons_of_mem _ hb)) ?_
      have h1 := insAll_len (sides a) D
      have h2 := h a List.mem_cons_self
      rw [sides_length] at h1
      rw [List.length_cons]
      omega
  have := go L [] h
  simpa using this
def great (F : List (List Nat)) : List (List Nat) := F.filter fun a => decide (¬ a ∈ allSides F)
theorem great_spec {Φ Φ1 : Fs} (hS : Φ.p "sides_of" = some (1, runP Φ1 2 a_sides_of)) (m : Int) {F : List (List Nat)} (hF : Fam F) : runP Φ 4 a_greatest_lots [.d (famD m F)] = some (tupO ((great F).map tm)) := by
  apply Ex.get
  unfold a_greatest_lots
  rw [q_runP]
  show Ex (x := evSs Φ _ ⟨[some (.d (famD m F)), none, none, none], none⟩) _
  infer_instance
  refine for_pre tm (fun d st => ∃ c2 c3 : Option O, st = ⟨[some (.d (famD m F)), some (.dct true (kvL (.bool true) (allSides d))), c2, c3], none⟩) F _ ⟨_, _, rfl⟩ ?_ ?_
  · rintro d a r st e ⟨c2, c3, rfl⟩
    have ha : a.length ≤ 100 := hF.short a (by rw [e]; exact List.mem_append_right _ List.mem_cons_self)
    have hd : d.length ≤ 1000 := by
      have := congrArg List.length e
      have := hF.few
      rw [List.length_append, List.length_cons] at *
      omega
    have hds : ∀ b ∈ d, b.length ≤ 100 := fun b hb => hF.short b (by rw [e]; exact List.mem_append_left _ hb)
    infer_instance
    rw [q_call hS]
    infer_instance
    rw [ex_eq (sides_spec a (by omega))]
    infer_instance
    refine for_pre tm (fun e2 st => ∃ c3 : Option O, st = ⟨[some (.d (famD m F)), some (.dct true (kvL (.bool true) (e2.foldl ins (allSides d)))), some (.d (tm a)), c3], none⟩) (sides a) _ ⟨_, rfl⟩ ?_ ?_
    · rintro e2 p r2 st e3 ⟨c3, rfl⟩
      have he2 : e2.length ≤ 100 := by
        have := congrArg List.length e3
        rw [List.length_append, List.length_cons, sides_length] at this
        omega
      infer_instance
      rw [q_sti _ _ _ _ ⟨_, rfl⟩]
      infer_instance
      rw [stAt_kvL rfl rfl (by
        have h1 := insAll_len e2 (allSides d)
        have h2 := allSides_len d hds
        rw [sizeLine_eq]
        omega)]
      infer_instance
      rw [List.foldl_append]
      exact ⟨_, rfl⟩
    · rintro st ⟨c3, rfl⟩
      infer_instance
      rw [allSides_snoc]
      exact ⟨_, _, rfl⟩
  · rintro st ⟨c2, c3, rfl⟩
    infer_instance
    refine Ex.of (lc_pureM tm (fun a : List Nat => if ¬ a ∈ allSides F then some (.d (tm a)) else none) F fun a ha => ?_) ?_
    · infer_instance
      rw [cmp_notinL]
      infer_instance
      refine ⟨fun q => ?_, fun q => ?_⟩
      · rw [if_pos q]
      · rw [if_neg (fun z => z q)]
    · infer_instance
      rw [filterMap_if (fun a : List Nat => ¬ a ∈ allSides F), datAll_d tm]
      infer_instance
      refine ⟨?_, rfl⟩
      have := hF.few
      exact Nat.le_trans (List.length_filter_le _ _) (by rw [sizeLine_eq]; omega)
/-! the top size -/
def insN (D : List Nat) (k : Nat) : List Nat := if k ∈ D then D else D ++ [k]
def kvN (D : List Nat) : KVs := D.map fun k : Nat => (DK.k (.inl (k : Int)), .bool true)
theorem kvPut_kvN (D : List Nat) (k : Nat) : kvPut (kvN D) (.k (.inl (k : Int))) (.bool true) = kvN (insN D k) := by
  have e : ((kvN D).any fun p => decide (p.1 = DK.k (.inl (k : Int)))) = decide (k ∈ D) := by
    unfold kvN
    rw [List.any_map, Bool.eq_iff_iff, decide_eq_true_eq, List.any_eq_true]
    constructor
    · rintro ⟨x, hx, e⟩
      have e : decide (DK.k (.inl (x : Int)) = DK.k (.inl (k : Int))) = true := e
      rw [decide_eq_true_eq, DK.k.injEq, Sum.inl.injEq] at e
      have : x = k := by omega
      exact this ▸ hx
    · intro h
      exact ⟨k, h, by show decide (DK.k (.inl (k : Int)) = DK.k (.inl (k : Int))) = true; simp⟩
  unfold kvPut
  rw [e]
  unfold insN
  by_cases h : k ∈ D
  · simp only [h, decide_true, if_true]
    unfold kvN
    rw [List.map_map]
    refine List.map_congr_left fun x hx => ?_
    show (if DK.k (.inl (x : Int)) = DK.k (.inl (k : Int)) then (DK.k (.inl (x : Int)), PyData.bool true) else (DK.k (.inl (x : Int)), PyData.bool true)) = _
    split <;> rfl
  · simp only [h, decide_false, Bool.false_eq_true, if_false]
    unfold kvN
    rw [List.map_append]
    rfl
theorem dictOf_N : ∀ (L : List (List Nat)) (D : List Nat), dictOf false (L.map fun a : List Nat => (PyData.int (a.length : Int), PyData.bool true)) (kvN D) = some (kvN ((L.map List.length).foldl insN D))
  | [], _ => rfl
  | a :: L, D => by
    show dictOf false (L.map fun a : List Nat => (PyData.int (a.length : Int), PyData.bool true)) (kvPut (kvN D) (.k (.inl (a.length : Int))) (.bool true)) = _
    rw [kvPut_kvN, dictOf_N L]
    rfl
theorem mem_insNs {x : Nat} : ∀ {ks D : List Nat}, x ∈ ks.foldl insN D ↔ x ∈ D ∨ x ∈ ks
  | [], D => by simp
  | k :: ks, D => by
    rw [List.foldl_cons, mem_insNs (ks := ks), List.mem_cons, ← or_assoc]
    refine or_congr ?_ Iff.rfl
    unfold insN
    split
    · next h => exact ⟨.inl, fun z => z.elim id fun e => e ▸ h⟩
    · rw [List.mem_append, List.mem_singleton]
theorem insNs_nodup : ∀ (ks : List Nat) {D : List Nat}, D.Nodup → (ks.foldl insN D).Nodup
  | [], _, h => h
  | k :: ks, D, h => by
    rw [List.foldl_cons]
    refine insNs_nodup ks ?_
    unfold insN
    split
    · exact h
    · next n =>
      rw [List.nodup_append]
      exact ⟨h, List.nodup_cons.2 ⟨List.not_mem_nil, List.nodup_nil⟩, fun a ha b hb e => n (by rw [List.mem_singleton.1 hb] at e; exact e ▸ ha)⟩
/-- the sizes of some lots, each once -/
def dlen (G : List (List Nat)) : List Nat := (G.map List.length).foldl insN []
theorem mem_dlen {G : List (List Nat)} {n : Nat} : n ∈ dlen G ↔ ∃ a ∈ G, a.length = n := by
  unfold dlen
  rw [mem_insNs]
  simp
def topD (G : List (List Nat)) : PyData := match dlen G with
  | [n] => .int (n : Int)
  | _ => .none
def topL : List (List Nat) → PyData
  | [] => .none
  | g :: gs => if (∀ a ∈ g :: gs, a.length = g.length) then .int (g.length : Int) else .none
theorem topD_eq (G : List (List Nat)) : topD G = topL G := by
  unfold topD
  cases G with
  | nil => rfl
  | cons g gs =>
    have hg : g.length ∈ dlen (g :: gs) := mem_dlen.2 ⟨g, List.mem_cons_self, rfl⟩
    have nd : (dlen (g :: gs)).Nodup := insNs_nodup _ List.nodup_nil
    rw [show topL (g :: gs) = if (∀ a ∈ g :: gs, a.length = g.length) then PyData.int (g.length : Int) else PyData.none from rfl]
    split
    · next n e =>
      rw [e, List.mem_singleton] at hg
      subst hg
      rw [if_pos]
      intro a ha
      have : a.length ∈ dlen (g :: gs) := mem_dlen.2 ⟨a, ha, rfl⟩
      rw [e, List.mem_singleton] at this
      exact this
    · next hno =>
      rw [if_neg]
      intro hall
      have one : ∀ n ∈ dlen (g :: gs), n = g.length := fun n hn => by
        obtain ⟨a, ha, rfl⟩ := mem_dlen.1 hn
        exact hall a ha
      match hd : dlen (g :: gs), hno with
      | [], _ => rw [hd] at hg; cases hg
      | [n], hno => exact hno n rfl
      | n :: n2 :: r, _ =>
        rw [hd] at one nd
        have h1 := one n List.mem_cons_self
        have h2 := one n2 (List.mem_cons_of_mem _ List.mem_cons_self)
        rw [List.nodup_cons] at nd
        exact nd.1 (by rw [h1, ← h2]; exact List.mem_cons_self)
theorem sortable_N (D : List Nat) : sortable ((kvN D).map fun p => p.1.dat) = true := by
  unfold sortable kvN
  simp only [Bool.and_eq_true, List.all_eq_true, Bool.or_eq_true, decide_eq_true_eq]
  refine ⟨⟨?_, .inr ?_⟩, ?_⟩
  · intro x hx y hy
    rw [List.map_map] at hx hy
    obtain ⟨a, ha, rfl⟩ := List.mem_map.1 hx
    obtain ⟨b, hb, rfl⟩ := List.mem_map.1 hy
    rfl
  · intro x hx
    rw [List.map_map] at hx
    obtain ⟨a, ha, rfl⟩ := List.mem_map.1 hx
    rfl
  · intro x hx
    rw [List.map_map] at hx
    obtain ⟨a, ha, rfl⟩ := List.mem_map.1 hx
    exact Nat.zero_le _
theorem pairsOf_N : ∀ L : List (List Nat), pairsOf (L.map fun a : List Nat => PyData.tuple [.int (a.length : Int), .bool true]) = some (L.map fun a : List Nat => (PyData.int (a.length : Int), PyData.bool true))
  | [] => rfl
  | k :: L => by
    show (pairsOf (L.map fun a : List Nat => PyData.tuple [.int (a.length : Int), .bool true])).map _ = _
    rw [pairsOf_N L]
    rfl
theorem great_len {F : List (List Nat)} (hF : Fam F) : (great F).length ≤ 1000 := Nat.le_trans (List.length_filter_le _ _) hF.few
theorem top_spec {Φ Φ1 Φ2 : Fs} (hG : Φ.p "greatest_lots" = some (1, runP Φ1 4 a_greatest_lots)) (hS : Φ1.p "sides_of" = some (1, runP Φ2 2 a_sides_of)) (m : Int) {F : List (List Nat)} (hF : Fam F) : runP Φ 3 a_top_size [.d (famD m F)] = some (.d (topD (great F))) := by
  apply Ex.get
  unfold a_top_size
  rw [q_runP]
  show Ex (x := evSs Φ _ ⟨[some (.d (famD m F)), none, none], none⟩) _
  infer_instance
  rw [q_call hG]
  infer_instance
  rw [ex_eq (great_spec hS m hF)]
  infer_instance
  refine Ex.of (lc_pureM tm (fun a : List Nat => some (.d (.tuple [.int (a.length : Int), .bool true]))) (great F) fun a ha => ?_) ?_
  · infer_instance
    rw [nums_length]
  · rw [filterMap_some]
    infer_instance
    rw [datAll_d (fun a : List Nat => PyData.tuple [.int (a.length : Int), .bool true])]
    infer_instance
    have := great_len hF
    refine ⟨by rw [sizeLine_eq]; omega, ?_⟩
    rw [pairsOf_N]
    infer_instance
    rw [show dictOf false ((great F).map fun a : List Nat => (PyData.int (a.length : Int), PyData.bool true)) [] = some (kvN (dlen (great F))) from dictOf_N (great F) []]
    infer_instance
    rw [sortable_N]
    infer_instance
    have hlen : (sortD ((kvN (dlen (great F))).map fun p => p.1.dat)).length = (dlen (great F)).length := by
      unfold sortD
      rw [List.length_mergeSort, List.length_map]
      exact List.length_map _
    rw [hlen]
    refine ⟨fun q => ?_, fun q => ?_⟩
    · unfold topD
      match hd : dlen (great F), q with
      | [n], _ =>
        rw [show sortD ((kvN [n]).map fun p => p.1.dat) = [.int (n : Int)] from by unfold sortD; simp [kvN]; rfl]
        infer_instance
      | [], q => simp at q
      | _ :: _ :: _, q => simp at q; omega
    · unfold topD
      split
      · next e => rw [e] at q; simp at q
      · rfl
end K82


set_option Elab.async false
set_option linter.all false
set_option maxRecDepth 100000
set_option maxHeartbeats 4000000
set_option pp.maxSteps 600
namespace K82
open PySem PySem.Spec PyProof.Rows L2 Vm

local macro_rules | `(tactic| infer_instance) => `(tactic| simp -dsimp only [q_chain, q_rng0, q_rng0T, q_enum, q_star, q_unp, q_dofK, datO_d, star_t, star_pt, star_l, listOf_l, seqL_lst, seqL_dl, q_int, q_bl, q_non, q_str, q_var, q_bor, q_mov, q_bin, q_neg, q_cmp, q_not, q_and, q_or, q_ife, q_tup, q_lst, q_idx, q_slc, q_rev, q_fn, q_mt, q_lcStep, q_lc, q_dnew, q_dof, q_sg, q_sl, q_sp, q_nil, q_cons, q_oeno, q_oeyes, q_ocno, q_ocyes, q_tv, q_tand, q_tor, q_tnot, q_seq, q_rng1, q_rng2, q_zip, q_zips, outK_nx, outK_ret, outK_brk, outK_cnt, q_snil, q_scons, q_set, q_par, q_ifs, q_forStep, q_forr, q_whl, q_ret, q_retn, q_brk, q_cnt, q_pass, q_sw, retP_ret, retS_ret, ex_some, ex_none, ex_iteN, ex_map, ex_bind,
  rdVar, rdBor, rdMov, frz_d, frz_pt, frz_lst, frz_mat, frz_dct, frz_fdct, frz_src, List.getElem?_cons_zero, List.getElem?_cons_succ, St.set, List.set_cons_zero, List.set_cons_succ, Option.map_some, Option.map_none, Option.bind_some, Option.bind_none, isSrc, sget_left, sget_mixed, sget_turn, sput_left, sput_mixed, sput_turn, vw_d, vw_pt, vw_lst, cmp_lt, cmp_gt, cmp_le, cmp_ge, cmp_eqI, cmp_neI, bin_add, bin_sub, tru_b, boolO, intO, put, puts, slot_d, slot_pt, slot_lst, slot_mat, slot_dct, slot_fdct, List.length_cons, List.length_nil, Nat.zero_le, sl_1, sl_2, sl_3, sl_4, sl_5, sl_6, sl_7, sl_8, sl_9, sl_10, sl_11, sl_12, sl_13, sl_14, sl_15, sl_16, sl_17, sl_18, sl_19, sl_20, sl_21, sl_22, sl_23, sl_24, sl_25, sl_26, sl_27, sl_28, sl_29, sl_30, sl_31, sl_32, sl_33, sl_34, sl_35, sl_36, sl_37, sl_38, sl_39, sl_40, Nat.reduceAdd, Nat.reduceLT, Nat.reduceLeDiff, cmp_eqNil, and_true, true_and, and_self, forall_const, true_implies, false_implies, reduceCtorEq, decide_eq_true_eq, decide_eq_false_iff_not, if_true, if_false, Int.reduceNeg, Option.some.injEq, pr_lenL, pr_lenH, pr_lenT, pr_lenD, pr_abs, pr_intI, pr_intB, pr_all, pr_any, pr_sum, pr_max, pr_min, pr_max2, pr_min2, pr_tupL', pr_tupT, pr_listL, pr_listT, pr_sortL, pr_sortD, cmp_isB, cmp_isnB, tru_i, cmp_neNil, add_L, add_T, slc_L, slc_T, rev_L, rev_T, seqP_pt, seqP_lst, seqP_dl, tupO_dat, tupO_frz, tupO_slot, tupO_free, tupO_vw, vwAll, datAll, dat_d, dat_pt, dat_lst, dat_mat, dat_dct0, implies_true, frzAll, vw, vw0, seqOf_l, seqOf_t, mtTy, List.all_cons, List.all_nil, free_d, free_pt, free_lst, free_dct, free_fdct, Bool.and_self, Bool.and_true, Bool.true_and, idx_list, idx_tup, at_c0, at_c1, clr, asg, asgs, List.length_map, Bool.not_eq_true', beq_self_eq_true, Bool.true_eq_false, Bool.not_eq_false', Bool.not_true, Bool.not_false, Bool.false_eq_true])
/-- the lots of a size -/
def ofSz (F : List (List Nat)) (n : Nat) : List (List Nat) := F.filter fun a => decide (a.length = n)
theorem ofsize_spec {Φ : Fs} (m : Int) {F : List (List Nat)} (hF : Fam F) (n : Nat) : runP Φ 3 a_lots_of_size [.d (famD m F), .d (.int (n : Int))] = some (tupO ((ofSz F n).map tm)) := by
  apply Ex.get
  unfold a_lots_of_size
  rw [q_runP]
  show Ex (x := evSs Φ _ ⟨[some (.d (famD m F)), some (.d (.int (n : Int))), none], none⟩) _
  infer_instance
  refine Ex.of (lc_pureM tm (fun a : List Nat => if a.length = n then some (.d (tm a)) else none) F fun a ha => ?_) ?_
  · infer_instance
    rw [nums_length]
    refine ⟨fun q => ?_, fun q => ?_⟩
    · rw [if_pos (by omega)]
    · rw [if_neg (by omega)]
  · infer_instance
    rw [filterMap_if (fun a : List Nat => a.length = n), datAll_d tm]
    infer_instance
    have := hF.few
    exact ⟨Nat.le_trans (List.length_filter_le _ _) (by rw [sizeLine_eq]; omega), rfl⟩
/-- the greatest size, -1 if there are none -/
def gsz (F : List (List Nat)) : Int := (F.map fun a => (a.length : Int)).foldl max (-1)
theorem max_head (l : List Int) : (-1 :: l).max? = some (l.foldl max (-1)) := by rw [List.max?_cons']
theorem foldl_max_ge : ∀ (l : List Int) (a : Int), a ≤ l.foldl max a ∧ (∀ x ∈ l, x ≤ l.foldl max a) ∧ (l.foldl max a = a ∨ l.foldl max a ∈ l)
  | [], a => ⟨Int.le_refl _, fun _ h => (List.not_mem_nil h).elim, .inl rfl⟩
  | x :: l, a => by
    rw [List.foldl_cons]
    obtain ⟨h1, h2, h3⟩ := foldl_max_ge l (max a x)
    refine ⟨by omega, fun y hy => ?_, ?_⟩
    · rcases List.mem_cons.1 hy with rfl | hy
      · omega
      · exact h2 y hy
    · rcases h3 with h3 | h3
      · rw [h3]
        by_cases h : a ≤ x
        · exact .inr (by rw [Int.max_eq_right h]; exact List.mem_cons_self)
        · exact .inl (by omega)
      · exact .inr (List.mem_cons_of_mem _ h3)
theorem max_last (l : List Int) : (l ++ [-1]).max? = some (l.foldl max (-1)) := by
  rw [List.max?_eq_some_iff]
  obtain ⟨h1, h2, h3⟩ := foldl_max_ge l (-1)
  refine ⟨?_, fun x hx => ?_⟩
  · rcases h3 with h3 | h3
    · rw [h3]; exact List.mem_append_right _ List.mem_cons_self
    · exact List.mem_append_left _ h3
  · rcases List.mem_append.1 hx with hx | hx
    · exact h2 x hx
    · rw [List.mem_singleton.1 hx]; exact h1
theorem gsz_ge {F : List (List Nat)} {a : List Nat} (h : a ∈ F) : (a.length : Int) ≤ gsz F := (foldl_max_ge _ (-1)).2.1 _ (List.mem_map.2 ⟨a, h, rfl⟩)
theorem gsz_lo (F : List (List Nat)) : -1 ≤ gsz F := (foldl_max_ge _ (-1)).1
theorem gsz_hi {F : List (List Nat)} (hF : Fam F) : gsz F ≤ 100 := by
  rcases (foldl_max_ge (F.map fun a => (a.length : Int)) (-1)).2.2 with h | h
  · unfold gsz; rw [h]; decide
  · obtain ⟨a, ha, e⟩ := List.mem_map.1 h
    unfold gsz
    rw [← e]
    have := hF.short a ha
    omega
theorem gsz_spec {Φ : Fs} (m : Int) {F : List (List Nat)} (hF : Fam F) : runP Φ 2 a_greatest_size [.d (famD m F)] = some (.d (.int (gsz F))) := by
  apply Ex.get
  unfold a_greatest_size
  rw [q_runP]
  show Ex (x := evSs Φ _ ⟨[some (.d (famD m F)), none], none⟩) _
  infer_instance
  refine Ex.of (lc_pureM tm (fun a : List Nat => some (.d (.int (a.length : Int)))) F fun a ha => ?_) ?_
  · infer_instance
    rw [nums_length]
  · rw [filterMap_some]
    infer_instance
    rw [datAll_d (fun a : List Nat => PyData.int (a.length : Int))]
    infer_instance
    have := hF.few
    rw [show [PyData.int (-1)] ++ F.map (fun a : List Nat => PyData.int (a.length : Int)) = (-1 :: F.map fun a : List Nat => (a.length : Int)).map PyData.int by rw [List.map_cons, List.map_map]; rfl, intsOf_map (fun i : Int => i), List.map_id']
    infer_instance
    rw [max_head]
    infer_instance
    exact ⟨by rw [sizeLine_eq]; omega, by rw [sizeLine_eq]; omega, rfl⟩
/-- how many there are of each size -/
def szs (F : List (List Nat)) : List Nat := (List.range (gsz F + 1).toNat).map fun k => (ofSz F k).length
theorem ofSz_len {F : List (List Nat)} (hF : Fam F) (n : Nat) : (ofSz F n).length ≤ 1000 := Nat.le_trans (List.length_filter_le _ _) hF.few
theorem sizes_spec {Φ Φ1 Φ2 : Fs} (hL : Φ.p "lots_of_size" = some (2, runP Φ1 3 a_lots_of_size)) (hG : Φ.p "greatest_size" = some (1, runP Φ2 2 a_greatest_size)) (m : Int) {F : List (List Nat)} (hF : Fam F) : runP Φ 2 a_sizes_of [.d (famD m F)] = some (.d (tm (szs F))) := by
  apply Ex.get
  unfold a_sizes_of
  rw [q_runP]
  show Ex (x := evSs Φ _ ⟨[some (.d (famD m F)), none], none⟩) _
  infer_instance
  rw [q_call hG]
  infer_instance
  rw [ex_eq (gsz_spec m hF)]
  infer_instance
  have h1 := gsz_lo F
  have h2 := gsz_hi hF
  refine ⟨by simp only [inBnd, Bool.and_eq_true, decide_eq_true_eq]; omega, ?_⟩
  rw [rngD0]
  refine Ex.of (lc_pureM (fun k : Nat => PyData.int (k : Int)) (fun k : Nat => some (.d (.int ((ofSz F k).length : Int)))) (List.range (gsz F + 1).toNat) fun k hk => ?_) ?_
  · infer_instance
    rw [q_call hL]
    infer_instance
    rw [ex_eq (ofsize_spec m hF k)]
    rcases tupO_or ((ofSz F k).map tm) with e | e <;> rw [e]
    · infer_instance
    · infer_instance
  · rw [filterMap_some]
    infer_instance
    rw [datAll_d (fun k : Nat => PyData.int ((ofSz F k).length : Int))]
    infer_instance
    refine ⟨by rw [List.length_range, sizeLine_eq]; omega, ?_⟩
    rw [show (List.range (gsz F + 1).toNat).map (fun k : Nat => PyData.int ((ofSz F k).length : Int)) = nums (szs F) by unfold szs nums; rw [List.map_map]; rfl, tupO_nums]
/-- the sign number -/
def sgn (F : List (List Nat)) : Int := (F.map fun a => 1 - 2 * ((a.length : Int) % 2)).sum
theorem sign_spec {Φ : Fs} (m : Int) {F : List (List Nat)} (hF : Fam F) : runP Φ 2 a_family_sign [.d (famD m F)] = some (.d (.int (sgn F))) := by
  apply Ex.get
  unfold a_family_sign
  rw [q_runP]
  show Ex (x := evSs Φ _ ⟨[some (.d (famD m F)), none], none⟩) _
  infer_instance
  refine Ex.of (lc_pureM tm (fun a : List Nat => some (.d (.int (1 - 2 * ((a.length : Int) % 2))))) F fun a ha => ?_) ?_
  · infer_instance
    rw [nums_length, bin_fmod (by decide)]
    infer_instance
    rw [bin_mulS (.inl (by decide))]
    infer_instance
  · rw [filterMap_some]
    infer_instance
    rw [datAll_d (fun a : List Nat => PyData.int (1 - 2 * ((a.length : Int) % 2)))]
    infer_instance
    rw [intsOf_map]
    infer_instance
    have := hF.few
    exact ⟨by rw [sizeLine_eq]; omega, rfl⟩
theorem eqv_ii (i j : Int) : PyData.eqv (.int i) (.int j) = (i == j) := by rw [PyData.eqv]
theorem shaped_tm (b : List Nat) : SeqAt.shaped (tm b) = true := by
  unfold SeqAt.shaped
  rw [decide_eq_true (Nat.le_trans (depth_tm b) (by decide)), Bool.and_true]
  show (PyData.tuple (nums b)).canLay0 = true
  rw [PyData.canLay0]
  induction b with
  | nil => simp [nums, PyData.canLayAll0]
  | cons x b ih =>
    show PyData.canLayAll0 (PyData.int (x : Int) :: nums b) = true
    rw [PyData.canLayAll0, ih]
    simp [PyData.canLay0]
theorem in_tm (x : Nat) (b : List Nat) : inSem (.d (.int (x : Int))) (.d (tm b)) = some (decide (x ∈ b)) := by
  show ((Vw.d (.int (x : Int))).dat.bind fun z => if SeqAt.shaped z && SeqAt.shaped (tm b) then some ((nums b).any fun y => PyData.eqv y z) else none) = _
  show (if SeqAt.shaped (.int (x : Int)) && SeqAt.shaped (tm b) then some ((nums b).any fun y => PyData.eqv y (.int (x : Int))) else none) = _
  rw [shaped_int, shaped_tm]
  show some _ = _
  congr 1
  rw [Bool.eq_iff_iff, List.any_eq_true, decide_eq_true_eq]
  constructor
  · rintro ⟨y, hy, e⟩
    obtain ⟨k, hk, rfl⟩ := List.mem_map.1 hy
    rw [eqv_ii, beq_iff_eq] at e
    have : k = x := by omega
    exact this ▸ hk
  · intro h
    exact ⟨.int (x : Int), List.mem_map.2 ⟨x, h, rfl⟩, by rw [eqv_ii]; simp⟩
theorem cmp_notinT (x : Nat) (b : List Nat) : cmpSem .notin (.d (.int (x : Int))) (.d (tm b)) = some (!decide (x ∈ b)) := by
  show (inSem (.d (.int (x : Int))) (.d (tm b))).map (!·) = _
  rw [in_tm]; rfl
def subs (a b : List Nat) : Bool := (a.filter fun x => decide (¬ x ∈ b)).isEmpty
theorem in_spec {Φ : Fs} (a b : List Nat) (h : a.length ≤ 1000) : runP Φ 3 a_law_in [.d (tm a), .d (tm b)] = some (.d (.bool (subs a b))) := by
  apply Ex.get
  unfold a_law_in
  rw [q_runP]
  show Ex (x := evSs Φ _ ⟨[some (.d (tm a)), some (.d (tm b)), none], none⟩) _
  infer_instance
  refine Ex.of (lc_pureM (fun k : Nat => PyData.int (k : Int)) (fun k : Nat => if ¬ k ∈ b then some (.d (.int (k : Int))) else none) a fun k hk => ?_) ?_
  · infer_instance
    rw [cmp_notinT]
    infer_instance
    refine ⟨fun q => ?_, fun q => ?_⟩
    · rw [if_pos q]
    · rw [if_neg (fun z => z q)]
  · infer_instance
    rw [filterMap_if (fun k : Nat => ¬ k ∈ b), datAll_d (fun k : Nat => PyData.int (k : Int))]
    infer_instance
    refine ⟨Nat.le_trans (List.length_filter_le _ _) (by rw [sizeLine_eq]; omega), ?_⟩
    rw [List.isEmpty_map]
    rfl
end K82


set_option Elab.async false
set_option linter.all false
set_option maxRecDepth 100000
set_option maxHeartbeats 4000000
namespace K82
open PySem PySem.Spec PyProof.Rows L2 Vm

/-- strictly ascending things below m -/
def Asc (m : Nat) (a : List Nat) : Prop := a.Pairwise (· < ·) ∧ ∀ x ∈ a, x < m
theorem Asc.sub {m : Nat} {a b : List Nat} (h : Asc m b) (s : a.Sublist b) : Asc m a := ⟨h.1.sublist s, fun x hx => h.2 x (s.subset hx)⟩
theorem sides_sub {a s : List Nat} (h : s ∈ sides a) : s.Sublist a := by
  unfold sides at h
  obtain ⟨k, hk, rfl⟩ := List.mem_map.1 h
  rw [← List.eraseIdx_eq_take_drop_succ]
  exact List.eraseIdx_sublist _ _
theorem sides_head (x : Nat) (a : List Nat) : a ∈ sides (x :: a) := by
  unfold sides
  exact List.mem_map.2 ⟨0, List.mem_range.2 (Nat.succ_pos _), rfl⟩
theorem sides_tail (x : Nat) {a s : List Nat} (h : s ∈ sides a) : x :: s ∈ sides (x :: a) := by
  unfold sides at h ⊢
  obtain ⟨k, hk, rfl⟩ := List.mem_map.1 h
  exact List.mem_map.2 ⟨k + 1, List.mem_range.2 (Nat.succ_lt_succ (List.mem_range.1 hk)), rfl⟩
theorem sub_step {a b : List Nat} (h : a.Sublist b) : a.length < b.length → ∃ c, a ∈ sides c ∧ c.Sublist b := by
  induction h with
  | slnil => intro h; exact absurd h (Nat.lt_irrefl _)
  | @cons a b x h ih =>
    intro _
    exact ⟨x :: a, sides_head x a, h.cons₂ x⟩
  | @cons_cons a b x h ih =>
    intro hl
    obtain ⟨c, h1, h2⟩ := ih (Nat.lt_of_succ_lt_succ hl)
    exact ⟨x :: c, sides_tail x h1, h2.cons₂ x⟩
theorem asc_sub : ∀ {a b : List Nat}, a.Pairwise (· < ·) → b.Pairwise (· < ·) → (∀ x ∈ a, x ∈ b) → a.Sublist b
  | [], b, _, _, _ => List.nil_sublist b
  | x :: a, [], _, _, h => (List.not_mem_nil (h x List.mem_cons_self)).elim
  | x :: a, y :: b, ha, hb, h => by
    have ha' := List.pairwise_cons.1 ha
    have hb' := List.pairwise_cons.1 hb
    by_cases e : x = y
    · subst e
      refine (asc_sub ha'.2 hb'.2 fun z hz => ?_).cons₂ x
      rcases List.mem_cons.1 (h z (List.mem_cons_of_mem _ hz)) with rfl | hz2
      · exact absurd (ha'.1 z hz) (Nat.lt_irrefl _)
      · exact hz2
    · have hx : x ∈ b := by
        rcases List.mem_cons.1 (h x List.mem_cons_self) with e2 | e2
        · exact absurd e2 e
        · exact e2
      refine (asc_sub ha hb'.2 fun z hz => ?_).cons y
      rcases List.mem_cons.1 (h z hz) with rfl | hz2
      · rcases List.mem_cons.1 hz with e3 | hz
        · exact absurd e3.symm e
        · have h1 := ha'.1 _ hz
          have h2 := hb'.1 x hx
          omega
      · exact hz2
/-- the drawn lots -/
structure Lots (m : Nat) (L : List (List Nat)) : Prop where
  asc : ∀ a ∈ L, Asc m a
  short : ∀ a ∈ L, a.length ≤ 5
  few : L.length ≤ 6
variable {m : Nat} {L : List (List Nat)}
theorem Lots.fasc (h : Lots m L) {a : List Nat} (ha : a ∈ fam L) : Asc m a ∧ a.length ≤ 5 := by
  obtain ⟨b, hb, s⟩ := mem_fam.1 ha
  exact ⟨(h.asc b hb).sub s, Nat.le_trans s.length_le (h.short b hb)⟩
theorem Lots.flen (h : Lots m L) : (fam L).length ≤ 192 := Nat.le_trans (fam_len L h.short) (by have := h.few; omega)
theorem Lots.fam (h : Lots m L) : Fam (fam L) := ⟨by have := h.flen; omega, fun a ha => by have := (h.fasc ha).2; omega⟩
theorem fam_down {a b : List Nat} (hb : b ∈ fam L) (s : a.Sublist b) : a ∈ fam L := by
  obtain ⟨c, hc, s2⟩ := mem_fam.1 hb
  exact mem_fam.2 ⟨c, hc, s.trans s2⟩
theorem subs_iff (a b : List Nat) : subs a b = true ↔ ∀ x ∈ a, x ∈ b := by
  unfold subs
  rw [List.isEmpty_iff, List.filter_eq_nil_iff]
  simp
/-- the law's great lots -/
def lgreat (F : List (List Nat)) : List (List Nat) := F.filter fun a => (F.filter fun b => decide (a.length < b.length) && subs a b).isEmpty
theorem lgreat_eq (h : Lots m L) : lgreat (K82.fam L) = great (K82.fam L) := by
  unfold lgreat great
  refine List.filter_congr fun a ha => ?_
  rw [Bool.eq_iff_iff, List.isEmpty_iff, List.filter_eq_nil_iff, decide_eq_true_eq, mem_allSides]
  constructor
  · rintro h1 ⟨b, hb, hs⟩
    refine h1 b hb ?_
    rw [Bool.and_eq_true, decide_eq_true_eq, subs_iff]
    have := sides_len hs
    exact ⟨by omega, fun x hx => (sides_sub hs).subset hx⟩
  · intro h1 b hb h2
    rw [Bool.and_eq_true, decide_eq_true_eq, subs_iff] at h2
    obtain ⟨c, hc, hs⟩ := sub_step (asc_sub (h.fasc ha).1.1 (h.fasc hb).1.1 h2.2) h2.1
    exact h1 ⟨c, fam_down hb hs, hc⟩
/-! the sign -/
def sg (k : Nat) : Int := 1 - 2 * ((k : Int) % 2)
theorem sgn_split (n : Nat) : ∀ F : List (List Nat), ((F.filter fun a => decide (a.length < n + 1)).map fun a => sg a.length).sum = ((F.filter fun a => decide (a.length < n)).map fun a => sg a.length).sum + sg n * ((ofSz F n).length : Int)
  | [] => by simp [ofSz]
  | a :: F => by
    have ih := sgn_split n F
    unfold ofSz at ih ⊢
    rw [List.filter_cons, List.filter_cons, List.filter_cons]
    rcases Nat.lt_trichotomy a.length n with h | h | h
    · rw [if_pos (by simp; omega), if_pos (by simpa using h), if_neg (by simp; omega), List.map_cons, List.sum_cons, List.map_cons, List.sum_cons, ih]
      omega
    · rw [if_pos (by simp; omega), if_neg (by simp; omega), if_pos (by simpa using h), List.map_cons, List.sum_cons, ih, h, List.length_cons, Int.natCast_add, Int.mul_add]
      omega
    · rw [if_neg (by simp; omega), if_neg (by simp; omega), if_neg (by simp; omega), ih]
theorem sgn_sum (F : List (List Nat)) : ∀ n : Nat, ((List.range n).map fun k => sg k * ((ofSz F k).length : Int)).sum = ((F.filter fun a => decide (a.length < n)).map fun a => sg a.length).sum
  | 0 => by
    rw [List.filter_eq_nil_iff.2 fun a _ => by simp]
    rfl
  | n + 1 => by
    rw [List.range_succ, List.map_append, List.sum_append, sgn_sum F n, sgn_split]
    simp
def sgc (p : Nat × Nat) : Int := if (p.1 : Int) % 2 = 0 then (p.2 : Int) else 0 - (p.2 : Int)
theorem sgc_eq (k c : Nat) : sgc (k, c) = sg k * (c : Int) := by
  unfold sgc sg
  show (if (k : Int) % 2 = 0 then (c : Int) else 0 - (c : Int)) = _
  rcases (show (k : Int) % 2 = 0 ∨ (k : Int) % 2 = 1 by omega) with h | h
  · rw [if_pos h, h]; omega
  · rw [if_neg (by omega), h]; omega
theorem sgn_law (F : List (List Nat)) : ((List.range (gsz F + 1).toNat).map fun k => sgc (k, (ofSz F k).length)).sum = sgn F := by
  rw [show ((List.range (gsz F + 1).toNat).map fun k => sgc (k, (ofSz F k).length)) = (List.range (gsz F + 1).toNat).map fun k => sg k * ((ofSz F k).length : Int) from List.map_congr_left fun k _ => sgc_eq _ _, sgn_sum, List.filter_eq_self.2]
  · rfl
  · intro a ha
    have := gsz_ge ha
    rw [decide_eq_true_eq]
    omega
/-! it is a family -/
theorem gt_nums {a : List Nat} {k : Nat} (h : k < a.length) : gt (nums a) k = .int (a[k] : Int) := by
  unfold gt
  rw [nums_get a k h]
  rfl
theorem lt_int (i j : Int) : PySem.W.dataLt (.int i) (.int j) = decide (i < j) := PySem.W.dataLt_int i j
theorem adj_nums {a : List Nat} (h : a.Pairwise (· < ·)) : adj (nums a) = true := by
  unfold adj
  rw [List.all_eq_true]
  intro k hk
  rw [nums_length] at hk
  have hk := List.mem_range.1 hk
  rw [gt_nums (show k < a.length by omega), gt_nums (show k + 1 < a.length by omega), lt_int, decide_eq_true_eq]
  have := List.pairwise_iff_getElem.1 h k (k + 1) (by omega) (by omega) (by omega)
  omega
theorem isLot_tm {a : List Nat} (h : Asc m a) : isLot (m : Int) (tm a) = true := by
  show ((nums a).all (isThing (m : Int)) && adj (nums a)) = true
  rw [adj_nums h.1, Bool.and_true, List.all_eq_true]
  intro x hx
  obtain ⟨k, hk, rfl⟩ := List.mem_map.1 hx
  have := h.2 k hk
  show (decide ((0 : Int) ≤ (k : Int)) && decide ((k : Int) < (m : Int))) = true
  rw [Bool.and_eq_true, decide_eq_true_eq, decide_eq_true_eq]
  omega
theorem gt_tms {F : List (List Nat)} {k : Nat} (h : k < F.length) : gt (F.map tm) k = tm F[k] := by
  unfold gt
  rw [List.getElem?_map, List.getElem?_eq_getElem h]
  rfl
theorem adj_fam (L : List (List Nat)) : adj ((fam L).map tm) = true := by
  unfold adj
  rw [List.all_eq_true]
  intro k hk
  rw [List.length_map] at hk
  have hk := List.mem_range.1 hk
  rw [gt_tms (show k < (fam L).length by omega), gt_tms (show k + 1 < (fam L).length by omega), lt_tm, decide_eq_true_eq]
  exact List.pairwise_iff_getElem.1 (fam_sorted L) k (k + 1) (by omega) (by omega) (by omega)
theorem clos_fam (L : List (List Nat)) : clos (fam L) = true := by
  unfold clos
  rw [List.all_eq_true]
  intro a ha
  rw [List.all_eq_true]
  intro s hs
  rw [decide_eq_true_eq]
  exact fam_down ha (sides_sub hs)
theorem famB_fam (h : Lots m L) : famB (famD (m : Int) (K82.fam L)) = true := by
  show (decide (0 ≤ (m : Int)) && (((K82.fam L).map tm).all (isLot (m : Int)) && (adj ((K82.fam L).map tm) && closP ((K82.fam L).map tm)))) = true
  rw [adj_fam, closP_tm, clos_fam, Bool.and_true, Bool.and_true, Bool.and_eq_true, decide_eq_true_eq, List.all_eq_true]
  refine ⟨Int.natCast_nonneg _, fun x hx => ?_⟩
  obtain ⟨a, ha, rfl⟩ := List.mem_map.1 hx
  exact isLot_tm (h.fasc ha).1
end K82


set_option Elab.async false
set_option linter.all false
set_option maxRecDepth 100000
set_option maxHeartbeats 4000000
set_option pp.maxSteps 600
namespace K82
open PySem PySem.Spec PyProof.Rows L2 Vm

local macro_rules | `(tactic| infer_instance) => `(tactic| simp -dsimp only [q_chain, q_rng0, q_rng0T, q_enum, q_star, q_unp, q_dofK, datO_d, star_t, star_pt, star_l, listOf_l, seqL_lst, seqL_dl, q_int, q_bl, q_non, q_str, q_var, q_bor, q_mov, q_bin, q_neg, q_cmp, q_not, q_and, q_or, q_ife, q_tup, q_lst, q_idx, q_slc, q_rev, q_fn, q_mt, q_lcStep, q_lc, q_dnew, q_dof, q_sg, q_sl, q_sp, q_nil, q_cons, q_oeno, q_oeyes, q_ocno, q_ocyes, q_tv, q_tand, q_tor, q_tnot, q_seq, q_rng1, q_rng2, q_zip, q_zips, outK_nx, outK_ret, outK_brk, outK_cnt, q_snil, q_scons, q_set, q_par, q_ifs, q_forStep, q_forr, q_whl, q_ret, q_retn, q_brk, q_cnt, q_pass, q_sw, retP_ret, retS_ret, ex_some, ex_none, ex_iteN, ex_map, ex_bind,
  rdVar, rdBor, rdMov, frz_d, frz_pt, frz_lst, frz_mat, frz_dct, frz_fdct, frz_src, List.getElem?_cons_zero, List.getElem?_cons_succ, St.set, List.set_cons_zero, List.set_cons_succ, Option.map_some, Option.map_none, Option.bind_some, Option.bind_none, isSrc, sget_left, sget_mixed, sget_turn, sput_left, sput_mixed, sput_turn, vw_d, vw_pt, vw_lst, cmp_lt, cmp_gt, cmp_le, cmp_ge, cmp_eqI, cmp_neI, bin_add, bin_sub, tru_b, boolO, intO, put, puts, slot_d, slot_pt, slot_lst, slot_mat, slot_dct, slot_fdct, List.length_cons, List.length_nil, Nat.zero_le, sl_1, sl_2, sl_3, sl_4, sl_5, sl_6, sl_7, sl_8, sl_9, sl_10, sl_11, sl_12, sl_13, sl_14, sl_15, sl_16, sl_17, sl_18, sl_19, sl_20, sl_21, sl_22, sl_23, sl_24, sl_25, sl_26, sl_27, sl_28, sl_29, sl_30, sl_31, sl_32, sl_33, sl_34, sl_35, sl_36, sl_37, sl_38, sl_39, sl_40, Nat.reduceAdd, Nat.reduceLT, Nat.reduceLeDiff, cmp_eqNil, and_true, true_and, and_self, forall_const, true_implies, false_implies, reduceCtorEq, decide_eq_true_eq, decide_eq_false_iff_not, if_true, if_false, Int.reduceNeg, Option.some.injEq, pr_lenL, pr_lenH, pr_lenT, pr_lenD, pr_abs, pr_intI, pr_intB, pr_all, pr_any, pr_sum, pr_max, pr_min, pr_max2, pr_min2, pr_tupL', pr_tupT, pr_listL, pr_listT, pr_sortL, pr_sortD, cmp_isB, cmp_isnB, tru_i, cmp_neNil, add_L, add_T, slc_L, slc_T, rev_L, rev_T, seqP_pt, seqP_lst, seqP_dl, tupO_dat, tupO_frz, tupO_slot, tupO_free, tupO_vw, vwAll, datAll, dat_d, dat_pt, dat_lst, dat_mat, dat_dct0, implies_true, frzAll, vw, vw0, seqOf_l, seqOf_t, mtTy, List.all_cons, List.all_nil, free_d, free_pt, free_lst, free_dct, free_fdct, Bool.and_self, Bool.and_true, Bool.true_and, idx_list, idx_tup, at_c0, at_c1, clr, asg, asgs, List.length_map, Bool.not_eq_true', beq_self_eq_true, Bool.true_eq_false, Bool.not_eq_false', Bool.not_true, Bool.not_false, Bool.false_eq_true])
theorem erase_nums : ∀ (a : List Nat) (k : Nat), (nums a).eraseIdx k = nums (a.eraseIdx k)
  | [], _ => rfl
  | x :: a, 0 => rfl
  | x :: a, k + 1 => by
    show PyData.int (x : Int) :: (nums a).eraseIdx k = PyData.int (x : Int) :: nums (a.eraseIdx k)
    rw [erase_nums a k]
theorem erase_perm : ∀ (a : List Nat) (k : Nat) (h : k < a.length), (a[k] :: a.eraseIdx k).Perm a
  | x :: a, 0, _ => .refl _
  | x :: a, k + 1, h => by
    show (a[k]'(Nat.lt_of_succ_lt_succ h) :: x :: a.eraseIdx k).Perm (x :: a)
    exact (List.Perm.swap _ _ _).trans ((erase_perm a k (Nat.lt_of_succ_lt_succ h)).cons x)
theorem mixed_spec {Φ Φ' : Fs} (hp : Φ.s "_law_pick" = some (2, runS Φ' 4 a_pick)) (s : Src) (xs : List Nat) (hx : xs.length ≤ 1000) (hs : s.cells.length ≤ 63) :
    Ex (x := runS Φ 4 a_law_mixed [.src, .d (.list (nums xs))] s) fun r => ∃ (ys : List Nat) (s' : Src), r = (.lst (nums ys), s') ∧ ys.Perm xs ∧ s'.cells.length ≤ 63 := by
  unfold a_law_mixed
  rw [q_runS]
  show Ex (x := evSs Φ _ ⟨[some .src, some (.d (.list (nums xs))), none, none], some s⟩) _
  infer_instance
  rw [nums_length]
  refine ⟨by simp only [inBnd, Bool.and_eq_true, decide_eq_true_eq]; omega, ?_⟩
  rw [rngD0, Int.toNat_natCast]
  refine lc_pre (fun k : Nat => PyData.int (k : Int)) (fun done os st => ∃ (ys rest : List Nat) (s' : Src), st = ⟨[some .src, some (.d (.list (nums xs))), some (.lst (nums rest)), none], some s'⟩ ∧ os = (nums ys).map .d ∧ (ys ++ rest).Perm xs ∧ rest.length + done.length = xs.length ∧ ys.length = done.length ∧ s'.cells.length ≤ 63) (List.range xs.length) _ ⟨[], xs, s, rfl, rfl, .refl _, rfl, rfl, hs⟩ ?_ ?_
  · rintro done k r os st e ⟨ys, rest, s1, rfl, rfl, hP, hl, hy, h63⟩
    have hd : done.length < xs.length := by
      have := congrArg List.length e
      rw [List.length_range, List.length_append, List.length_cons] at this
      omega
    infer_instance
    rw [q_popi _ _ _ ⟨_, rfl⟩, q_calls hp]
    infer_instance
    rw [nums_length]
    refine (pick_nat s1 rest.length h63 (by omega) (by omega)).mono fun q ⟨v, s2, e2, h1, h2⟩ => ?_
    subst e2
    have hv : v < rest.length := by omega
    infer_instance
    rw [popAt_nat (xs := nums rest) rfl (by rw [nums_length]; exact hv) (by rw [nums_length, sizeLine_eq]; omega)]
    infer_instance
    refine ⟨ys ++ [rest[v]], rest.eraseIdx v, s2, ?_, ?_, ?_, ?_, ?_, h2⟩
    · rw [erase_nums]
    · rw [nums_append, List.map_append]
      congr 1
      show [O.d ((nums rest)[v]'_)] = [O.d (.int (rest[v] : Int))]
      congr 2
      unfold nums
      rw [List.getElem_map]
    · rw [List.append_assoc]
      refine (List.Perm.append_left _ ?_).trans hP
      exact erase_perm rest v hv
    · rw [List.length_eraseIdx_of_lt hv, List.length_append, List.length_singleton]
      omega
    · rw [List.length_append, List.length_append, List.length_singleton, List.length_singleton, hy]
  · rintro os st ⟨ys, rest, s1, rfl, rfl, hP, hl, hy, h63⟩
    rw [List.length_range] at hl hy
    have : rest = [] := List.eq_nil_of_length_eq_zero (by omega)
    subst this
    rw [List.append_nil] at hP
    infer_instance
    rw [datAll_ds]
    infer_instance
    refine ⟨by rw [nums_length, sizeLine_eq]; omega, ?_⟩
    exact ⟨ys, s1, rfl, hP, h63⟩
/-! sorting numbers -/
def leN (a b : Nat) : Bool := !PySem.W.dataLt (.int (b : Int)) (.int (a : Int))
theorem leN_iff (a b : Nat) : leN a b = true ↔ a ≤ b := by
  unfold leN
  rw [lt_int]
  simp
def srtN (D : List Nat) : List Nat := D.mergeSort leN
theorem srtN_nums (D : List Nat) : sortD (nums D) = nums (srtN D) := by
  unfold sortD srtN nums
  exact (List.map_mergeSort (f := fun k : Nat => PyData.int (k : Int)) (r := leN) (s := fun a b => !PySem.W.dataLt b a) fun a _ b _ => rfl).symm
theorem srtN_perm (D : List Nat) : (srtN D).Perm D := List.mergeSort_perm _ _
theorem srtN_asc {D : List Nat} (hn : D.Nodup) : (srtN D).Pairwise (· < ·) := by
  have a1 : (srtN D).Pairwise fun a b => leN a b = true := List.pairwise_mergeSort (fun a b c h k => by rw [leN_iff] at *; omega) (fun a b => by rw [Bool.or_eq_true, leN_iff, leN_iff]; omega) _
  have a2 : (srtN D).Pairwise fun a b => a ≠ b := ((srtN_perm D).nodup_iff).2 hn
  refine (a1.and a2).imp fun {a b} h => ?_
  have h1 := (leN_iff a b).1 h.1
  have h2 := h.2
  omega
theorem sortable_nums (D : List Nat) : sortable (nums D) = true := by
  unfold sortable nums
  simp only [Bool.and_eq_true, List.all_eq_true, Bool.or_eq_true, decide_eq_true_eq]
  refine ⟨⟨?_, .inr ?_⟩, ?_⟩
  · intro x hx y hy
    obtain ⟨a, ha, rfl⟩ := List.mem_map.1 hx
    obtain ⟨b, hb, rfl⟩ := List.mem_map.1 hy
    rfl
  · intro x hx
    obtain ⟨a, ha, rfl⟩ := List.mem_map.1 hx
    rfl
  · intro x hx
    obtain ⟨a, ha, rfl⟩ := List.mem_map.1 hx
    exact Nat.zero_le _
theorem drawn_spec {Φ Φ1 Φ2 Φ3 : Fs} (hp : Φ.s "_law_pick" = some (2, runS Φ1 4 a_pick)) (hm : Φ.s "_law_mixed" = some (2, runS Φ2 4 a_law_mixed)) (hp2 : Φ2.s "_law_pick" = some (2, runS Φ3 4 a_pick)) (s : Src) (m : Nat) (h1000 : m ≤ 1000) (hs : s.cells.length ≤ 63) :
    Ex (x := runS Φ 5 a_law_drawn_lots [.src, .d (.int (m : Int))] s) fun r => ∃ (L : List (List Nat)) (s' : Src), r = (.lst (L.map tm), s') ∧ Lots m L ∧ s'.cells.length ≤ 63 := by
  unfold a_law_drawn_lots
  rw [q_runS]
  show Ex (x := evSs Φ _ ⟨[some .src, some (.d (.int (m : Int))), none, none, none], some s⟩) _
  infer_instance
  rw [q_calls hp]
  infer_instance
  refine (pick_nat s 7 hs (by omega) (by omega)).mono fun q ⟨v, s1, e1, h1, h2⟩ => ?_
  subst e1
  infer_instance
  refine ⟨by simp only [inBnd, Bool.and_eq_true, decide_eq_true_eq]; omega, ?_⟩
  rw [rngD0, Int.toNat_natCast]
  refine for_pre (fun k : Nat => PyData.int (k : Int)) (fun done st => ∃ (L : List (List Nat)) (s2 : Src) (c3 c4 : Option O), st = ⟨[some .src, some (.d (.int (m : Int))), some (.lst (L.map tm)), c3, c4], some s2⟩ ∧ (∀ a ∈ L, Asc m a) ∧ (∀ a ∈ L, a.length ≤ 5) ∧ L.length = done.length ∧ s2.cells.length ≤ 63) (List.range v) _ ⟨[], s1, _, _, rfl, fun _ h => (List.not_mem_nil h).elim, fun _ h => (List.not_mem_nil h).elim, rfl, h2⟩ ?_ ?_
  · rintro done k r st e ⟨L, s2, c3, c4, rfl, g1, g2, g3, g4⟩
    have hd : done.length < v := by
      have := congrArg List.length e
      rw [List.length_range, List.length_append, List.length_cons] at this
      omega
    infer_instance
    rw [q_calls hp]
    infer_instance
    refine (pick_nat s2 ((if (5 : Int) < (m : Int) then 5 else (m : Int)) + 1) g4 (by split <;> omega) (by split <;> omega)).mono fun q ⟨w, s3, e3, h3, h4⟩ => ?_
    subst e3
    have hw : w ≤ 5 := by
      split at h3 <;> omega
    infer_instance
    rw [q_app _ _ _ ⟨_, rfl⟩]
    infer_instance
    rw [q_calls hm]
    infer_instance
    refine ⟨by simp only [inBnd, Bool.and_eq_true, decide_eq_true_eq]; rw [sizeLine_eq]; omega, ?_⟩
    rw [rngD0, Int.toNat_natCast]
    refine (mixed_spec hp2 s3 (List.range m) (by rw [List.length_range]; exact h1000) h4).mono fun q ⟨ys, s4, e4, hP, h5⟩ => ?_
    subst e4
    infer_instance
    rw [cut_to, nums_take, sortable_nums]
    infer_instance
    rw [srtN_nums, tupO_nums, app_l (xs := L.map tm) rfl rfl (by rw [List.length_map, sizeLine_eq]; omega)]
    infer_instance
    have hnd : ys.Nodup := (hP.nodup_iff).2 List.nodup_range
    have hsub : (ys.take w).Sublist ys := List.take_sublist _ _
    refine ⟨L ++ [srtN (ys.take w)], s4, some (.d (.int (k : Int))), some (.d (.int (w : Int))), ?_, ?_, ?_, ?_, h5⟩
    · rw [List.map_append]
      rfl
    · intro a ha
      rcases List.mem_append.1 ha with ha | ha
      · exact g1 a ha
      · rw [List.mem_singleton.1 ha]
        refine ⟨srtN_asc (hnd.sublist hsub), fun x hx => ?_⟩
        exact List.mem_range.1 (hP.mem_iff.1 (hsub.subset ((srtN_perm _).mem_iff.1 hx)))
    · intro a ha
      rcases List.mem_append.1 ha with ha | ha
      · exact g2 a ha
      · rw [List.mem_singleton.1 ha, (srtN_perm _).length_eq, List.length_take]
        omega
    · rw [List.length_append, List.length_append, g3]
      rfl
  · rintro st ⟨L, s2, c3, c4, rfl, g1, g2, g3, g4⟩
    infer_instance
    rw [List.length_range] at g3
    exact ⟨L, s2, rfl, ⟨g1, g2, by omega⟩, g4⟩
end K82


set_option Elab.async false
set_option linter.all false
set_option maxRecDepth 100000
set_option maxHeartbeats 4000000
set_option pp.maxSteps 600
namespace K82
open PySem PySem.Spec PyProof.Rows L2 Vm

local macro_rules | `(tactic| infer_instance) => `(tactic| simp -dsimp only [q_chain, q_rng0, q_rng0T, q_enum, q_star, q_unp, q_dofK, datO_d, star_t, star_pt, star_l, listOf_l, seqL_lst, seqL_dl, q_int, q_bl, q_non, q_str, q_var, q_bor, q_mov, q_bin, q_neg, q_cmp, q_not, q_and, q_or, q_ife, q_tup, q_lst, q_idx, q_slc, q_rev, q_fn, q_mt, q_lcStep, q_lc, q_dnew, q_dof, q_sg, q_sl, q_sp, q_nil, q_cons, q_oeno, q_oeyes, q_ocno, q_ocyes, q_tv, q_tand, q_tor, q_tnot, q_seq, q_rng1, q_rng2, q_zip, q_zips, outK_nx, outK_ret, outK_brk, outK_cnt, q_snil, q_scons, q_set, q_par, q_ifs, q_forStep, q_forr, q_whl, q_ret, q_retn, q_brk, q_cnt, q_pass, q_sw, retP_ret, retS_ret, ex_some, ex_none, ex_iteN, ex_map, ex_bind,
  rdVar, rdBor, rdMov, frz_d, frz_pt, frz_lst, frz_mat, frz_dct, frz_fdct, frz_src, List.getElem?_cons_zero, List.getElem?_cons_succ, St.set, List.set_cons_zero, List.set_cons_succ, Option.map_some, Option.map_none, Option.bind_some, Option.bind_none, isSrc, sget_left, sget_mixed, sget_turn, sput_left, sput_mixed, sput_turn, vw_d, vw_pt, vw_lst, cmp_lt, cmp_gt, cmp_le, cmp_ge, cmp_eqI, cmp_neI, bin_add, bin_sub, tru_b, boolO, intO, put, puts, slot_d, slot_pt, slot_lst, slot_mat, slot_dct, slot_fdct, List.length_cons, List.length_nil, Nat.zero_le, sl_1, sl_2, sl_3, sl_4, sl_5, sl_6, sl_7, sl_8, sl_9, sl_10, sl_11, sl_12, sl_13, sl_14, sl_15, sl_16, sl_17, sl_18, sl_19, sl_20, sl_21, sl_22, sl_23, sl_24, sl_25, sl_26, sl_27, sl_28, sl_29, sl_30, sl_31, sl_32, sl_33, sl_34, sl_35, sl_36, sl_37, sl_38, sl_39, sl_40, Nat.reduceAdd, Nat.reduceLT, Nat.reduceLeDiff, cmp_eqNil, and_true, true_and, and_self, forall_const, true_implies, false_implies, reduceCtorEq, decide_eq_true_eq, decide_eq_false_iff_not, if_true, if_false, Int.reduceNeg, Option.some.injEq, pr_lenL, pr_lenH, pr_lenT, pr_lenD, pr_abs, pr_intI, pr_intB, pr_all, pr_any, pr_sum, pr_max, pr_min, pr_max2, pr_min2, pr_tupL', pr_tupT, pr_listL, pr_listT, pr_sortL, pr_sortD, cmp_isB, cmp_isnB, tru_i, cmp_neNil, add_L, add_T, slc_L, slc_T, rev_L, rev_T, seqP_pt, seqP_lst, seqP_dl, tupO_dat, tupO_frz, tupO_slot, tupO_free, tupO_vw, vwAll, datAll, dat_d, dat_pt, dat_lst, dat_mat, dat_dct0, implies_true, frzAll, vw, vw0, seqOf_l, seqOf_t, mtTy, List.all_cons, List.all_nil, free_d, free_pt, free_lst, free_dct, free_fdct, Bool.and_self, Bool.and_true, Bool.true_and, idx_list, idx_tup, at_c0, at_c1, clr, asg, asgs, List.length_map, Bool.not_eq_true', beq_self_eq_true, Bool.true_eq_false, Bool.not_eq_false', Bool.not_true, Bool.not_false, Bool.false_eq_true])
/-- a value that both sides may look at -/
structure Val (x : PyData) : Prop where
  fine : Fine x 6 90000
  sm : ∀ xs ls, x = .tuple xs → ls ∈ xs → ∀ ys, ls = .tuple ys → ∀ y ∈ ys, ∀ zs, y = .tuple zs → zs.length ≤ 1000
theorem pl_len {y : PyData} {d : Nat} (h : Pl y d 40) {zs : List PyData} (e : y = .tuple zs) : zs.length ≤ 1000 := by
  subst e
  have := bulk_len h.blk
  omega
theorem val_pl {x : PyData} {d : Nat} (h : Pl x d 990) (hd : d ≤ 6) : Val x := by
  refine ⟨h.fine.mono hd (by omega), ?_⟩
  rintro xs ls rfl hls ys rfl y hy zs rfl
  exact bulk_len (bulk_mem hy (bulk_mem hls (Nat.le_trans h.blk (by omega))))
theorem val_pair {i : Int} {ls : List PyData} (hi : i.natAbs < 10 ^ 38) (h : ∀ y ∈ ls, Pl y 1 40) (hl : ls.length ≤ 400) : Val (.tuple [.int i, .tuple ls]) := by
  have h1 : Pl (.tuple ls) 2 (400 * 41) := Pl.tup h hl
  refine ⟨?_, ?_⟩
  · refine (Pl.tup (d := 2) (b := 400 * 41) (m := 2) (fun x hx => ?_) (Nat.le_refl _)).fine.mono (by omega) (by omega)
    simp only [List.mem_cons, List.not_mem_nil, or_false] at hx
    rcases hx with rfl | rfl
    · exact (Pl.int hi).mono (Nat.zero_le _) (Nat.zero_le _)
    · exact h1
  · intro xs l e hl ys e2 y hy zs e3
    cases e
    simp only [List.mem_cons, List.not_mem_nil, or_false] at hl
    rcases hl with rfl | rfl
    · cases e2
    · cases e2
      exact pl_len (h y hy) e3
theorem val_pairL {i : Int} {ls : List PyData} (hi : i.natAbs < 10 ^ 38) (h : ∀ y ∈ ls, Pl y 1 40) (hl : ls.length ≤ 400) : Val (.tuple [.int i, .list ls]) := by
  have h1 : Pl (.list ls) 2 (400 * 41) := Pl.list h hl
  refine ⟨?_, ?_⟩
  · refine (Pl.tup (d := 2) (b := 400 * 41) (m := 2) (fun x hx => ?_) (Nat.le_refl _)).fine.mono (by omega) (by omega)
    simp only [List.mem_cons, List.not_mem_nil, or_false] at hx
    rcases hx with rfl | rfl
    · exact (Pl.int hi).mono (Nat.zero_le _) (Nat.zero_le _)
    · exact h1
  · intro xs l e hl ys e2 y hy zs e3
    cases e
    simp only [List.mem_cons, List.not_mem_nil, or_false] at hl
    rcases hl with rfl | rfl <;> cases e2
/-- some lots in a row, or nearly so -/
def Lsts (n : Nat) (ls : List PyData) : Prop := (∀ y ∈ ls, Pl y 1 40) ∧ ls.length ≤ n
theorem Lsts.cat {a b : List PyData} {n k : Nat} (h : Lsts n a) (h2 : Lsts k b) : Lsts (n + k) (a ++ b) := ⟨fun y hy => (List.mem_append.1 hy).elim (h.1 y) (h2.1 y), by rw [List.length_append]; have := h.2; have := h2.2; omega⟩
theorem Lsts.tak {a : List PyData} {n : Nat} (h : Lsts n a) (k : Nat) : Lsts n (a.take k) := ⟨fun y hy => h.1 y (List.mem_of_mem_take hy), by rw [List.length_take]; have := h.2; omega⟩
theorem Lsts.dro {a : List PyData} {n : Nat} (h : Lsts n a) (k : Nat) : Lsts n (a.drop k) := ⟨fun y hy => h.1 y (List.mem_of_mem_drop hy), by rw [List.length_drop]; have := h.2; omega⟩
theorem Lsts.rev {a : List PyData} {n : Nat} (h : Lsts n a) : Lsts n a.reverse := ⟨fun y hy => h.1 y (List.mem_reverse.1 hy), by rw [List.length_reverse]; exact h.2⟩
theorem pl_lot {a : List Nat} {m : Nat} (hm : m ≤ 1000) (h : Asc m a) (h5 : a.length ≤ 5) : Pl (tm a) 1 5 := pl_tm h5 fun k hk => by have := h.2 k hk; omega
theorem lsts_fam {m : Nat} {L : List (List Nat)} (hm : m ≤ 1000) (h : Lots m L) : Lsts 192 ((fam L).map tm) := by
  refine ⟨fun y hy => ?_, by rw [List.length_map]; exact h.flen⟩
  obtain ⟨a, ha, rfl⟩ := List.mem_map.1 hy
  obtain ⟨h1, h2⟩ := h.fasc ha
  exact (pl_lot hm h1 h2).mono (Nat.le_refl _) (by omega)
theorem lsts_one {x : PyData} (h : Pl x 0 0) : Lsts 1 [.tuple [x]] := by
  refine ⟨fun y hy => ?_, Nat.le_refl _⟩
  rw [List.mem_singleton.1 hy]
  exact (Pl.tup (d := 0) (b := 0) (m := 1) (fun z hz => by rw [List.mem_singleton.1 hz]; exact h) (Nat.le_refl _)).mono (Nat.le_refl _) (by omega)
theorem Lsts.val {n : Nat} {a : List PyData} {i : Int} (h : Lsts n a) (hi : i.natAbs < 10 ^ 38) (hn : n ≤ 400) : Val (.tuple [.int i, .tuple a]) := val_pair hi h.1 (Nat.le_trans h.2 hn)
theorem Lsts.valL {n : Nat} {a : List PyData} {i : Int} (h : Lsts n a) (hi : i.natAbs < 10 ^ 38) (hn : n ≤ 400) : Val (.tuple [.int i, .list a]) := val_pairL hi h.1 (Nat.le_trans h.2 hn)
theorem datAll_lst {α : Type} (f : α → List PyData) : ∀ xs : List α, datAll (xs.map fun x => O.lst (f x)) = some (xs.map fun x => PyData.list (f x))
  | [] => rfl
  | x :: xs => by
    show ((O.lst (f x)).dat.bind fun y => (datAll (xs.map fun x => O.lst (f x))).map (y :: ·)) = _
    rw [datAll_lst f xs]
    rfl
theorem atI_mem {xs : List PyData} {k : Nat} {P : PyData → Prop} (hP : ∀ x ∈ xs, P x) (hk : k < xs.length) : ∃ x, atI xs (k : Int) = some x ∧ P x := ⟨_, atI_lt hk, hP _ (List.getElem_mem _)⟩
theorem near_spec {Φ Φ1 : Fs} (hp : Φ.s "_law_pick" = some (2, runS Φ1 4 a_pick)) (s : Src) {m : Nat} {L : List (List Nat)} (h1000 : m ≤ 1000) (hL : Lots m L) (hs : s.cells.length ≤ 63) :
    Ex (x := runS Φ 8 a_law_near [.src, .d (famD (m : Int) (fam L))] s) fun r => ∃ (x : PyData) (s' : Src), r = (.d x, s') ∧ Val x ∧ s'.cells.length ≤ 63 := by
  have hF := lsts_fam h1000 hL
  have hi : (m : Int).natAbs < 10 ^ 38 := by omega
  unfold a_law_near
  rw [q_runS]
  show Ex (x := evSs Φ _ ⟨[some .src, some (.d (.tuple [.int (m : Int), .tuple ((fam L).map tm)])), none, none, none, none, none, none], some s⟩) _
  generalize fam L = F at hF
  have hl : F.length ≤ 192 := by have := hF.2; rw [List.length_map] at this; exact this
  infer_instance
  rw [q_calls hp]
  infer_instance
  refine (pick_nat s (if (F.length : Int) > 1 then (F.length : Int) else 1) hs (by split <;> omega) (by split <;> omega)).mono fun q ⟨k, s1, e1, h1, h2⟩ => ?_
  subst e1
  infer_instance
  rw [q_calls hp]
  infer_instance
  refine (pick_nat s1 9 h2 (by omega) (by omega)).mono fun q ⟨w, s2, e2, h3, h4⟩ => ?_
  subst e2
  infer_instance
  rw [show (k : Int) + 1 = ((k + 1 : Nat) : Int) by omega, cut_to, cut_to, cut_from, cut_from, cut_from1]
  have f1 := (hF.tak k).cat (hF.dro (k + 1))
  have f2 := (hF.tak (k + 1)).cat (hF.dro k)
  have f3 := hF.rev
  have f4 := hF.dro 1
  have f5 := hF.cat (lsts_one (Pl.int hi))
  have f6 := hF.cat (lsts_one (Pl.bool true))
  refine ⟨?_, ?_, ?_, ?_, fun q => ?_, fun q => ?_⟩
  · rw [List.length_take, List.length_drop, List.length_map, sizeLine_eq]; omega
  · rw [List.length_take, List.length_drop, List.length_map, sizeLine_eq]; omega
  · rw [sizeLine_eq]; omega
  · rw [sizeLine_eq]; omega
  · have hw : w < 6 := by omega
    obtain ⟨x, e, ls, rfl, hls⟩ := atI_mem (k := w) (P := fun x => ∃ ls, x = PyData.tuple ls ∧ Lsts 384 ls) (xs := [PyData.tuple (List.take k (F.map tm) ++ List.drop (k + 1) (F.map tm)), PyData.tuple (List.take (k + 1) (F.map tm) ++ List.drop k (F.map tm)), PyData.tuple (F.map tm).reverse, PyData.tuple (List.drop 1 (F.map tm))] ++ [PyData.tuple (F.map tm ++ [PyData.tuple [PyData.int (m : Int)]]), PyData.tuple (F.map tm ++ [PyData.tuple [PyData.bool true]])]) (fun x hx => by
      have up : ∀ {n : Nat} {ls : List PyData}, n ≤ 384 → Lsts n ls → Lsts 384 ls := fun h1 h2 => ⟨h2.1, Nat.le_trans h2.2 h1⟩
      simp only [List.cons_append, List.nil_append, List.mem_cons, List.not_mem_nil, or_false] at hx
      rcases hx with rfl | rfl | rfl | rfl | rfl | rfl
      · exact ⟨_, rfl, up (by omega) f1⟩
      · exact ⟨_, rfl, up (by omega) f2⟩
      · exact ⟨_, rfl, up (by omega) f3⟩
      · exact ⟨_, rfl, up (by omega) f4⟩
      · exact ⟨_, rfl, up (by omega) f5⟩
      · exact ⟨_, rfl, up (by omega) f6⟩) (by simpa using hw)
    rw [e]
    infer_instance
    exact ⟨_, s2, rfl, hls.val hi (by omega), h4⟩
  · obtain ⟨v, rfl⟩ : ∃ v : Nat, w = v + 6 := ⟨w - 6, by omega⟩
    rw [show List.drop k (F.map tm) = (F.drop k).map tm from List.map_drop.symm]
    refine Ex.of (lc_pureM tm (fun a : List Nat => some (.lst (nums a))) (F.drop k) fun a ha => ?_) ?_
    · infer_instance
    · rw [filterMap_some]
      infer_instance
      rw [datAll_lst nums]
      infer_instance
      refine ⟨by rw [List.length_drop, sizeLine_eq]; omega, ?_⟩
      have hmix : Lsts 384 (List.take k (F.map tm) ++ (F.drop k).map fun a : List Nat => PyData.list (nums a)) := by
        refine Lsts.cat (n := 192) (k := 192) (hF.tak k) ⟨fun y hy => ?_, by rw [List.length_map, List.length_drop]; omega⟩
        obtain ⟨a, ha, rfl⟩ := List.mem_map.1 hy
        have hp := hF.1 (tm a) (List.mem_map.2 ⟨a, List.mem_of_mem_drop ha, rfl⟩)
        refine ⟨?_, ?_, ?_, ?_⟩
        · have := hp.ok; rw [okV] at this; rw [okV]; exact this
        · have := hp.dep; rw [PyData.depth] at this; rw [PyData.depth]; exact this
        · have := hp.blk; rw [PyData.bulk] at this; rw [PyData.bulk]; exact this
        · have := hp.nod; rw [PyData.hasDict] at this; rw [PyData.hasDict]; exact this
      have hi2 : ((m : Int) - 1).natAbs < 10 ^ 38 := by omega
      rcases tupO_or ((F.drop k).map fun a : List Nat => PyData.list (nums a)) with e | e
      all_goals
        rw [e]
        infer_instance
        refine ⟨by rw [List.length_take, List.length_drop, List.length_map, sizeLine_eq]; omega, ?_⟩
        rw [show ((v + 6 : Nat) : Int) - 6 = (v : Int) by omega]
        obtain ⟨x, e4, hx⟩ := atI_mem (k := v) (P := Val) (xs := [PyData.tuple [PyData.int (m : Int), PyData.list (F.map tm)], PyData.tuple [PyData.int ((m : Int) - 1), PyData.tuple (F.map tm)], PyData.tuple [PyData.int (m : Int), PyData.tuple (List.take k (F.map tm) ++ (F.drop k).map fun a : List Nat => PyData.list (nums a))]]) (fun x hx => by
          simp only [List.mem_cons, List.not_mem_nil, or_false] at hx
          rcases hx with rfl | rfl | rfl
          · exact hF.valL hi (by omega)
          · exact hF.val hi2 (by omega)
          · exact hmix.val hi (by omega)) (show v < 3 by omega)
        rw [e4]
        infer_instance
        exact ⟨_, s2, rfl, hx, h4⟩
end K82


set_option Elab.async false
set_option linter.all false
set_option maxRecDepth 100000
set_option maxHeartbeats 4000000
set_option pp.maxSteps 600
namespace K82
open PySem PySem.Spec PyProof.Rows L2 Vm

local macro_rules | `(tactic| infer_instance) => `(tactic| simp -dsimp only [q_chain, q_rng0, q_rng0T, q_enum, q_star, q_unp, q_dofK, datO_d, star_t, star_pt, star_l, listOf_l, seqL_lst, seqL_dl, q_int, q_bl, q_non, q_str, q_var, q_bor, q_mov, q_bin, q_neg, q_cmp, q_not, q_and, q_or, q_ife, q_tup, q_lst, q_idx, q_slc, q_rev, q_fn, q_mt, q_lcStep, q_lc, q_dnew, q_dof, q_sg, q_sl, q_sp, q_nil, q_cons, q_oeno, q_oeyes, q_ocno, q_ocyes, q_tv, q_tand, q_tor, q_tnot, q_seq, q_rng1, q_rng2, q_zip, q_zips, outK_nx, outK_ret, outK_brk, outK_cnt, q_snil, q_scons, q_set, q_par, q_ifs, q_forStep, q_forr, q_whl, q_ret, q_retn, q_brk, q_cnt, q_pass, q_sw, retP_ret, retS_ret, ex_some, ex_none, ex_iteN, ex_map, ex_bind,
  rdVar, rdBor, rdMov, frz_d, frz_pt, frz_lst, frz_mat, frz_dct, frz_fdct, frz_src, List.getElem?_cons_zero, List.getElem?_cons_succ, St.set, List.set_cons_zero, List.set_cons_succ, Option.map_some, Option.map_none, Option.bind_some, Option.bind_none, isSrc, sget_left, sget_mixed, sget_turn, sput_left, sput_mixed, sput_turn, vw_d, vw_pt, vw_lst, cmp_lt, cmp_gt, cmp_le, cmp_ge, cmp_eqI, cmp_neI, bin_add, bin_sub, tru_b, boolO, intO, put, puts, slot_d, slot_pt, slot_lst, slot_mat, slot_dct, slot_fdct, List.length_cons, List.length_nil, Nat.zero_le, sl_1, sl_2, sl_3, sl_4, sl_5, sl_6, sl_7, sl_8, sl_9, sl_10, sl_11, sl_12, sl_13, sl_14, sl_15, sl_16, sl_17, sl_18, sl_19, sl_20, sl_21, sl_22, sl_23, sl_24, sl_25, sl_26, sl_27, sl_28, sl_29, sl_30, sl_31, sl_32, sl_33, sl_34, sl_35, sl_36, sl_37, sl_38, sl_39, sl_40, Nat.reduceAdd, Nat.reduceLT, Nat.reduceLeDiff, cmp_eqNil, and_true, true_and, and_self, forall_const, true_implies, false_implies, reduceCtorEq, decide_eq_true_eq, decide_eq_false_iff_not, if_true, if_false, Int.reduceNeg, Option.some.injEq, pr_lenL, pr_lenH, pr_lenT, pr_lenD, pr_abs, pr_intI, pr_intB, pr_all, pr_any, pr_sum, pr_max, pr_min, pr_max2, pr_min2, pr_tupL', pr_tupT, pr_listL, pr_listT, pr_sortL, pr_sortD, cmp_isB, cmp_isnB, tru_i, cmp_neNil, add_L, add_T, slc_L, slc_T, rev_L, rev_T, seqP_pt, seqP_lst, seqP_dl, tupO_dat, tupO_frz, tupO_slot, tupO_free, tupO_vw, vwAll, datAll, dat_d, dat_pt, dat_lst, dat_mat, dat_dct0, implies_true, frzAll, vw, vw0, seqOf_l, seqOf_t, mtTy, List.all_cons, List.all_nil, free_d, free_pt, free_lst, free_dct, free_fdct, Bool.and_self, Bool.and_true, Bool.true_and, idx_list, idx_tup, at_c0, at_c1, clr, asg, asgs, List.length_map, Bool.not_eq_true', beq_self_eq_true, Bool.true_eq_false, Bool.not_eq_false', Bool.not_true, Bool.not_false, Bool.false_eq_true])
def lb_19 : Ss := (.cons (.forr (.nm 23) (.seq (.bin .add (.bin .add (.fn .list (.cons (.slc (.bor 9) .no (.yes (.int 20))) .nil)) (.lst (.cons (.bin .add (.bor 11) (.tup (.cons (.var 4) .nil))) (.cons (.rev (.bor 11)) (.cons (.bin .add (.bor 11) (.slc (.bor 11) (.yes (.neg (.int 1))) .no)) (.cons (.tup (.cons (.bl true) .nil)) (.cons (.fn .list (.cons (.bor 11) .nil)) .nil))))))) (.bor 2))) (.cons (.ifs (.v (.cmp .ne (.fn .repr (.cons (.call "is_thing_lot_of" (.cons (.var 4) (.cons (.var 23) .nil))) .nil)) (.fn .repr (.cons (.call "_law_is_lot" (.cons (.var 4) (.cons (.var 23) .nil))) .nil)))) (.cons (.ret (.bl false)) .nil) .nil) .nil)) .nil)
def lb_18 : Ss := (.cons (.forr (.nm 23) (.seq (.var 21)) (.cons (.set 24 (.fn .repr (.cons (.bor 23) .nil))) (.cons (.ifs (.or (.v (.cmp .ne (.fn .repr (.cons (.call "is_family" (.cons (.var 23) .nil)) .nil)) (.fn .repr (.cons (.call "_law_is_family" (.cons (.var 23) .nil)) .nil)))) (.v (.cmp .ne (.fn .repr (.cons (.bor 23) .nil)) (.bor 24)))) (.cons (.ret (.bl false)) .nil) .nil) .nil))) lb_19)
def lb_17 : Ss := (.cons (.set 21 (.bin .add (.bin .add (.lst (.cons (.var 6) (.cons (.fn .list (.cons (.bor 6) .nil)) (.cons (.bin .add (.bor 6) (.tup (.cons (.int 0) .nil))) .nil)))) (.lc false (.calls "_law_near" (.cons (.var 1) (.cons (.var 6) .nil))) (.nm 22) (.rng1 (.int 14)) .no [22])) (.bor 2))) lb_18)
def lb_15 : Ss := (.cons (.set 11 (.calls "_law_of" (.cons (.var 1) (.cons (.bin .add (.fn .list (.cons (.bor 9) .nil)) (.lst (.cons (.tup (.cons (.int 0) (.cons (.int 2) (.cons (.int 3) .nil)))) .nil))) .nil)))) (.cons (.ifs (.or (.v (.cmp .ne (.fn .repr (.cons (.call "sides_of" (.cons (.var 11) .nil)) .nil)) (.fn .repr (.cons (.call "_law_sides" (.cons (.var 11) .nil)) .nil)))) (.v (.cmp .ne (.fn .sorted (.cons (.call "parts_of" (.cons (.var 11) .nil)) .nil)) (.fn .sorted (.cons (.call "_law_parts" (.cons (.var 11) .nil)) .nil))))) (.cons (.ret (.bl false)) .nil) .nil) lb_17))
def lb_14 : Ss := (.cons (.forr (.nm 19) (.rng1 (.bin .add (.fn .len (.cons (.bor 14) .nil)) (.int 1))) (.cons (.set 20 (.fn .tuple (.cons (.lc false (.var 11) (.nm 11) (.seq (.var 9)) (.yes (.v (.cmp .eq (.fn .len (.cons (.bor 11) .nil)) (.bor 19)))) [11]) .nil))) (.cons (.ifs (.v (.cmp .ne (.fn .repr (.cons (.call "lots_of_size" (.cons (.var 6) (.cons (.var 19) .nil))) .nil)) (.fn .repr (.cons (.bor 20) .nil)))) (.cons (.ret (.bl false)) .nil) .nil) .nil))) lb_15)
def lb_12 : Ss := (.cons (.set 17 (.fn .sum (.cons (.lc false (.ife (.v (.cmp .eq (.bin .fmod (.fn .int (.cons (.bor 15) .nil)) (.int 2)) (.int 0))) (.var 18) (.bin .sub (.int 0) (.bor 18))) (.tp (.cons (.nm 15) (.cons (.nm 18) .nil))) (.enum (.var 14)) .no [15, 18]) .nil))) (.cons (.ifs (.v (.cmp .ne (.fn .repr (.cons (.call "family_sign" (.cons (.var 6) .nil)) .nil)) (.fn .repr (.cons (.bor 17) .nil)))) (.cons (.ret (.bl false)) .nil) .nil) lb_14))
def lb_10 : Ss := (.cons (.ifs (.v (.cmp .ne (.fn .repr (.cons (.lst (.cons (.call "greatest_lots" (.cons (.var 6) .nil)) (.cons (.call "top_size" (.cons (.var 6) .nil)) .nil))) .nil)) (.fn .repr (.cons (.lst (.cons (.fn .tuple (.cons (.bor 10) .nil)) (.cons (.var 16) .nil))) .nil)))) (.cons (.ret (.bl false)) .nil) .nil) (.cons (.ifs (.v (.cmp .ne (.fn .repr (.cons (.lst (.cons (.call "greatest_size" (.cons (.var 6) .nil)) (.cons (.call "sizes_of" (.cons (.var 6) .nil)) .nil))) .nil)) (.fn .repr (.cons (.lst (.cons (.bin .sub (.fn .len (.cons (.bor 14) .nil)) (.int 1)) (.cons (.fn .tuple (.cons (.bor 14) .nil)) .nil))) .nil)))) (.cons (.ret (.bl false)) .nil) .nil) lb_12))
def lb_9 : Ss := (.cons (.set 16 (.ife (.and (.v (.cmp .ne (.bor 10) (.lst .nil))) (.v (.cmp .eq (.lc false (.var 11) (.nm 11) (.seq (.var 10)) (.yes (.v (.cmp .ne (.fn .len (.cons (.bor 11) .nil)) (.fn .len (.cons (.idx (.bor 10) (.int 0)) .nil))))) [11]) (.lst .nil)))) (.fn .len (.cons (.idx (.bor 10) (.int 0)) .nil)) .non)) lb_10)
def lb_7 : Ss := (.cons (.set 13 (.fn .max (.cons (.bin .add (.lc false (.fn .len (.cons (.bor 11) .nil)) (.nm 11) (.seq (.var 9)) .no [11]) (.lst (.cons (.bin .sub (.int 0) (.int 1)) .nil))) .nil))) (.cons (.set 14 (.lc false (.fn .len (.cons (.lc false (.var 11) (.nm 11) (.seq (.var 9)) (.yes (.v (.cmp .eq (.fn .len (.cons (.bor 11) .nil)) (.bor 15)))) [11]) .nil)) (.nm 15) (.rng1 (.bin .add (.bor 13) (.int 1))) .no [15])) lb_9))
def lb_5 : Ss := (.cons (.set 9 (.idx (.bor 6) (.int 1))) (.cons (.set 10 (.lc false (.var 11) (.nm 11) (.seq (.var 9)) (.yes (.v (.cmp .eq (.lc false (.var 12) (.nm 12) (.seq (.var 9)) (.yes (.and (.v (.cmp .gt (.fn .len (.cons (.bor 12) .nil)) (.fn .len (.cons (.bor 11) .nil)))) (.v (.call "_law_in" (.cons (.var 11) (.cons (.var 12) .nil)))))) [12]) (.lst .nil)))) [11])) lb_7))
def lb_0 : Ss := (.cons (.set 4 (.calls "_law_of" (.cons (.var 1) (.cons (.lst (.cons (.int 6) (.cons (.int 8) (.cons (.int 5) (.cons (.int 12) (.cons (.int 30) (.cons (.int 3) (.cons (.int 1) (.cons (.int 0) .nil))))))))) .nil)))) (.cons (.set 5 (.calls "_law_drawn_lots" (.cons (.var 1) (.cons (.var 4) .nil)))) (.cons (.par [6, 7] (.cons (.call "_law_family" (.cons (.var 4) (.cons (.var 5) .nil))) (.cons (.fn .repr (.cons (.bor 5) .nil)) .nil))) (.cons (.set 8 (.call "family_of" (.cons (.var 4) (.cons (.ife (.v (.cmp .eq (.calls "_law_pick" (.cons (.var 1) (.cons (.int 2) .nil))) (.int 0))) (.var 5) (.fn .tuple (.cons (.bor 5) .nil))) .nil)))) (.cons (.ifs (.or (.v (.cmp .ne (.fn .repr (.cons (.bor 8) .nil)) (.fn .repr (.cons (.bor 6) .nil)))) (.or (.v (.cmp .ne (.fn .repr (.cons (.bor 5) .nil)) (.bor 7))) (.v (.cmp .isnot (.call "is_family" (.cons (.var 6) .nil)) (.bl true))))) (.cons (.ret (.bl false)) .nil) .nil) lb_5)))))
def lend : Ss := (.cons (.ret (.and (.cmp .is (.call "top_size" (.cons (.tup (.cons (.int 3) (.cons (.tup .nil) .nil))) .nil)) .non) (.and (.cmp .eq (.call "greatest_size" (.cons (.tup (.cons (.int 3) (.cons (.tup .nil) .nil))) .nil)) (.neg (.int 1))) (.cmp .eq (.call "family_of" (.cons (.int 2) (.cons (.lst .nil) .nil))) (.tup (.cons (.int 2) (.cons (.tup .nil) .nil))))))) .nil)
theorem a_law_eq : a_law = (.cons (.set 2 (.lst (.cons .non (.cons (.bl true) (.cons (.bl false) (.cons (.str "x") (.cons (.tup .nil) (.cons (.tup (.cons (.int 0) .nil)) (.cons (.lst (.cons (.int 0) .nil)) (.cons (.dnew false) (.cons (.int 0) (.cons (.int 1) (.cons (.tup (.cons (.int 0) (.cons (.tup .nil) .nil))) (.cons (.tup (.cons (.int 0) (.cons (.tup (.cons (.tup .nil) .nil)) .nil))) (.cons (.tup (.cons (.int 1) (.cons (.tup (.cons (.tup (.cons (.int 0) .nil)) .nil)) .nil))) (.cons (.tup (.cons (.bl true) (.cons (.tup (.cons (.tup .nil) .nil)) .nil))) (.cons (.bin .pow (.int 10) (.int 30)) .nil))))))))))))))))) (.cons (.forr (.nm 3) (.rng1 (.int 3)) lb_0) lend)) := rfl

def odds : List PyData := [.none, .bool true, .bool false, .str (Str.ofString "x"), .tuple [], .tuple [.int 0], .list [.int 0], .dict [], .int 0, .int 1, .tuple [.int 0, .tuple []], .tuple [.int 0, .tuple [.tuple []]], .tuple [.int 1, .tuple [.tuple [.int 0]]], .tuple [.bool true, .tuple [.tuple []]], .int (10 ^ 30)]
theorem pick_at : Ph.s "_law_pick" = some (2, runS Ph12 4 a_pick) := rfl
theorem of_at : Ph.s "_law_of" = some (2, runS Ph13 2 a_of) := rfl
theorem of_pick : Ph13.s "_law_pick" = some (2, runS Ph12 4 a_pick) := rfl
theorem drawn_at : Ph.s "_law_drawn_lots" = some (2, runS Ph21 5 a_law_drawn_lots) := rfl
theorem near_at : Ph.s "_law_near" = some (2, runS Ph22 8 a_law_near) := rfl
theorem lfam_at : Ph.p "_law_family" = some (2, runP Ph17 5 a_law_family) := rfl
theorem fam_at : Ph.p "family_of" = some (2, runP Ph4 5 a_family_of) := rfl
theorem isfam_at : Ph.p "is_family" = some (1, runP Ph5 5 a_is_family) := rfl
theorem lisfam_at : Ph.p "_law_is_family" = some (1, runP Ph20 7 a_law_is_family) := rfl
theorem in_at : Ph.p "_law_in" = some (2, runP Ph23 3 a_law_in) := rfl
theorem great_at : Ph.p "greatest_lots" = some (1, runP Ph6 4 a_greatest_lots) := rfl
theorem top_at : Ph.p "top_size" = some (1, runP Ph7 3 a_top_size) := rfl
theorem ofsize_at : Ph.p "lots_of_size" = some (2, runP Ph8 3 a_lots_of_size) := rfl
theorem gsz_at : Ph.p "greatest_size" = some (1, runP Ph9 2 a_greatest_size) := rfl
theorem sizes_at : Ph.p "sizes_of" = some (1, runP Ph10 2 a_sizes_of) := rfl
theorem sign_at : Ph.p "family_sign" = some (1, runP Ph11 2 a_family_sign) := rfl
theorem sides_at : Ph.p "sides_of" = some (1, runP Ph2 2 a_sides_of) := rfl
theorem parts_at : Ph.p "parts_of" = some (1, runP Ph3 4 a_parts_of) := rfl
theorem lsides_at : Ph.p "_law_sides" = some (1, runP Ph18 2 a_law_sides) := rfl
theorem lparts_at : Ph.p "_law_parts" = some (1, runP Ph16 4 a_law_parts) := rfl
theorem lot_at : Ph.p "is_thing_lot_of" = some (2, runP Ph1 4 a_is_thing_lot_of) := rfl
theorem llot_at : Ph.p "_law_is_lot" = some (2, runP Ph19 4 a_law_is_lot) := rfl
theorem isfam_val (x : PyData) (h : Val x) : runP Ph5 5 a_is_family [.d x] = some (.d (.bool (famB x))) := isfam_spec (Φ := Ph5) (Φ1 := Ph1) (Φ2 := Ph0) rfl rfl (Φ3 := Ph2) rfl x h.fine.ok (Nat.le_trans h.fine.blk (by omega)) h.sm
theorem lisfam_val (x : PyData) (h : Val x) : runP Ph20 7 a_law_is_family [.d x] = some (.d (.bool (famB x))) := lawisfam_spec (Φ := Ph20) (Φ1 := Ph19) (Φ2 := Ph15) (Φ4 := Ph15) rfl rfl rfl (Φ3 := Ph18) rfl x h.fine.ok (Nat.le_trans h.fine.blk (by omega)) h.sm
theorem fine_fam {m : Nat} {L : List (List Nat)} (hm : m ≤ 30) (hL : Lots m L) : Val (famD (m : Int) (fam L)) := (lsts_fam (by omega) hL).val (by omega) (by omega)
theorem fine_lots {m : Nat} {L : List (List Nat)} (hm : m ≤ 30) (hL : Lots m L) : Fine (.list (L.map tm)) 2 36 := (Pl.list (d := 1) (b := 5) (m := 6) (fun x hx => by
  obtain ⟨a, ha, rfl⟩ := List.mem_map.1 hx
  exact pl_lot (by omega) (hL.asc a ha) (hL.short a ha)) (by rw [List.length_map]; exact hL.few)).fine
theorem chunkA (Q : Out → Prop) (c3 c4 c5 c6 c7 c8 c9 c10 c11 c12 c13 c14 c15 c16 c17 c18 c19 c20 c21 c22 c23 c24 : Option O) (s : Src) (hs : s.cells.length ≤ 63)
    (k : ∀ (m : Nat) (L : List (List Nat)) (s : Src), m ≤ 30 → Lots m L → s.cells.length ≤ 63 → Ex (x := evSs Ph lb_5 ⟨[none, some .src, some (.lst odds), c3, some (.d (.int (m : Int))), some (.d (.list (L.map tm))), some (.d (famD (m : Int) (fam L))), some (.d (.str (PyData.shown (.list (L.map tm))))), some (.d (famD (m : Int) (fam L))), c9, c10, c11, none, c13, c14, c15, c16, c17, c18, c19, c20, c21, c22, c23, c24], some s⟩) Q) : Ex (x := evSs Ph lb_0 ⟨[none, some .src, some (.lst odds), c3, c4, c5, c6, c7, c8, c9, c10, c11, none, c13, c14, c15, c16, c17, c18, c19, c20, c21, c22, c23, c24], some s⟩) Q := by
  unfold lb_0
  infer_instance
  rw [q_calls of_at]
  infer_instance
  refine (of_spec of_pick s (.list [.int 6, .int 8, .int 5, .int 12, .int 30, .int 3, .int 1, .int 0]) rfl (by simp) (by simp) hs).mono fun r ⟨x, hx, s1, e, h1⟩ => ?_
  subst e
  obtain ⟨m, rfl, hm⟩ : ∃ m : Nat, x = .int (m : Int) ∧ m ≤ 30 := by
    simp only [List.mem_cons, List.not_mem_nil, or_false] at hx
    rcases hx with rfl | rfl | rfl | rfl | rfl | rfl | rfl | rfl
    · exact ⟨6, rfl, by omega⟩
    · exact ⟨8, rfl, by omega⟩
    · exact ⟨5, rfl, by omega⟩
    · exact ⟨12, rfl, by omega⟩
    · exact ⟨30, rfl, by omega⟩
    · exact ⟨3, rfl, by omega⟩
    · exact ⟨1, rfl, by omega⟩
    · exact ⟨0, rfl, by omega⟩
  infer_instance
  rw [q_calls drawn_at]
  infer_instance
  refine (drawn_spec (Φ := Ph21) (Φ1 := Ph12) (Φ2 := Ph14) (Φ3 := Ph12) rfl rfl rfl s1 m (by omega) h1).mono fun r ⟨L, s2, e, hL, h2⟩ => ?_
  subst e
  infer_instance
  rw [q_call lfam_at]
  infer_instance
  rw [ex_eq (lawfamily_spec (Φ := Ph17) (Φ' := Ph16) rfl (m : Int) L (.d (.list (L.map tm))) rfl rfl rfl hL.few hL.short)]
  infer_instance
  have fl := fine_lots hm hL
  have ff := (fine_fam hm hL).fine
  rw [fl.repr (by omega) (by omega)]
  infer_instance
  rw [q_call fam_at]
  infer_instance
  rw [q_calls pick_at]
  infer_instance
  refine (pick_nat s2 2 h2 (by omega) (by omega)).mono fun r ⟨v, s3, e, h3, h4⟩ => ?_
  subst e
  infer_instance
  have h0 := k m L s3 hm hL h4
  have tl : runP Ph4 5 a_family_of [.d (.int (m : Int)), .d (.list (L.map tm))] = some (.d (famD (m : Int) (fam L))) := family_spec (Φ := Ph4) (Φ' := Ph3) rfl (m : Int) L (.d (.list (L.map tm))) rfl rfl rfl hL.few hL.short
  have tt : runP Ph4 5 a_family_of [.d (.int (m : Int)), tupO (L.map tm)] = some (.d (famD (m : Int) (fam L))) := family_spec (Φ := Ph4) (Φ' := Ph3) rfl (m : Int) L (tupO (L.map tm)) (tupO_dat _) rfl (tupO_frz _) hL.few hL.short
  refine ⟨fun q => ?_, fun q => ?_⟩
  all_goals
    first
    | rw [ex_eq tl]
    | rw [ex_eq tt]
    infer_instance
    rw [ff.repr (by omega) (by omega)]
    infer_instance
    rw [ff.repr (by omega) (by omega)]
    infer_instance
    rw [ff.ne]
    infer_instance
    rw [fl.repr (by omega) (by omega)]
    infer_instance
    rw [fl.ne]
    infer_instance
    rw [q_call isfam_at]
    infer_instance
    rw [ex_eq (isfam_val _ (fine_fam hm hL)), famB_fam hL]
    infer_instance
    exact h0
end K82


set_option Elab.async false
set_option linter.all false
set_option maxRecDepth 100000
set_option maxHeartbeats 4000000
set_option pp.maxSteps 600
namespace K82
open PySem PySem.Spec PyProof.Rows L2 Vm

local macro_rules | `(tactic| infer_instance) => `(tactic| simp -dsimp only [q_chain, q_rng0, q_rng0T, q_enum, q_star, q_unp, q_dofK, datO_d, star_t, star_pt, star_l, listOf_l, seqL_lst, seqL_dl, q_int, q_bl, q_non, q_str, q_var, q_bor, q_mov, q_bin, q_neg, q_cmp, q_not, q_and, q_or, q_ife, q_tup, q_lst, q_idx, q_slc, q_rev, q_fn, q_mt, q_lcStep, q_lc, q_dnew, q_dof, q_sg, q_sl, q_sp, q_nil, q_cons, q_oeno, q_oeyes, q_ocno, q_ocyes, q_tv, q_tand, q_tor, q_tnot, q_seq, q_rng1, q_rng2, q_zip, q_zips, outK_nx, outK_ret, outK_brk, outK_cnt, q_snil, q_scons, q_set, q_par, q_ifs, q_forStep, q_forr, q_whl, q_ret, q_retn, q_brk, q_cnt, q_pass, q_sw, retP_ret, retS_ret, ex_some, ex_none, ex_iteN, ex_map, ex_bind,
  rdVar, rdBor, rdMov, frz_d, frz_pt, frz_lst, frz_mat, frz_dct, frz_fdct, frz_src, List.getElem?_cons_zero, List.getElem?_cons_succ, St.set, List.set_cons_zero, List.set_cons_succ, Option.map_some, Option.map_none, Option.bind_some, Option.bind_none, isSrc, sget_left, sget_mixed, sget_turn, sput_left, sput_mixed, sput_turn, vw_d, vw_pt, vw_lst, cmp_lt, cmp_gt, cmp_le, cmp_ge, cmp_eqI, cmp_neI, bin_add, bin_sub, tru_b, boolO, intO, put, puts, slot_d, slot_pt, slot_lst, slot_mat, slot_dct, slot_fdct, List.length_cons, List.length_nil, Nat.zero_le, sl_1, sl_2, sl_3, sl_4, sl_5, sl_6, sl_7, sl_8, sl_9, sl_10, sl_11, sl_12, sl_13, sl_14, sl_15, sl_16, sl_17, sl_18, sl_19, sl_20, sl_21, sl_22, sl_23, sl_24, sl_25, sl_26, sl_27, sl_28, sl_29, sl_30, sl_31, sl_32, sl_33, sl_34, sl_35, sl_36, sl_37, sl_38, sl_39, sl_40, Nat.reduceAdd, Nat.reduceLT, Nat.reduceLeDiff, cmp_eqNil, and_true, true_and, and_self, forall_const, true_implies, false_implies, reduceCtorEq, decide_eq_true_eq, decide_eq_false_iff_not, if_true, if_false, Int.reduceNeg, Option.some.injEq, pr_lenL, pr_lenH, pr_lenT, pr_lenD, pr_abs, pr_intI, pr_intB, pr_all, pr_any, pr_sum, pr_max, pr_min, pr_max2, pr_min2, pr_tupL', pr_tupT, pr_listL, pr_listT, pr_sortL, pr_sortD, cmp_isB, cmp_isnB, tru_i, cmp_neNil, add_L, add_T, slc_L, slc_T, rev_L, rev_T, seqP_pt, seqP_lst, seqP_dl, tupO_dat, tupO_frz, tupO_slot, tupO_free, tupO_vw, vwAll, datAll, dat_d, dat_pt, dat_lst, dat_mat, dat_dct0, implies_true, frzAll, vw, vw0, seqOf_l, seqOf_t, mtTy, List.all_cons, List.all_nil, free_d, free_pt, free_lst, free_dct, free_fdct, Bool.and_self, Bool.and_true, Bool.true_and, idx_list, idx_tup, at_c0, at_c1, clr, asg, asgs, List.length_map, Bool.not_eq_true', beq_self_eq_true, Bool.true_eq_false, Bool.not_eq_false', Bool.not_true, Bool.not_false, Bool.false_eq_true])

theorem chunkB {m : Nat} {L : List (List Nat)} (hm : m ≤ 30) (hL : Lots m L) (Q : Out → Prop) (c3 c9 c10 c11 c12 c13 c14 c15 c16 c17 c18 c19 c20 c21 c22 c23 c24 : Option O) (s : Src)
    (k : Ex (x := evSs Ph lb_7 ⟨[none, some .src, some (.lst odds), c3, some (.d (.int (m : Int))), some (.d (.list (L.map tm))), some (.d (famD (m : Int) (fam L))), some (.d (.str (PyData.shown (.list (L.map tm))))), some (.d (famD (m : Int) (fam L))), some (.d (.tuple ((fam L).map tm))), some (.lst ((great (fam L)).map tm)), none, none, c13, c14, c15, c16, c17, c18, c19, c20, c21, c22, c23, c24], some s⟩) Q) : Ex (x := evSs Ph lb_5 ⟨[none, some .src, some (.lst odds), c3, some (.d (.int (m : Int))), some (.d (.list (L.map tm))), some (.d (famD (m : Int) (fam L))), some (.d (.str (PyData.shown (.list (L.map tm))))), some (.d (famD (m : Int) (fam L))), c9, c10, c11, none, c13, c14, c15, c16, c17, c18, c19, c20, c21, c22, c23, c24], some s⟩) Q := by
  unfold lb_5
  infer_instance
  have hF := hL.fam
  refine Ex.of (lc_pureM tm (fun a : List Nat => if ((fam L).filter fun b => decide (a.length < b.length) && subs a b).isEmpty = true then some (.d (tm a)) else none) (fam L) fun a ha => ?_) ?_
  · infer_instance
    have hs := hF.short a ha
    refine Ex.of (lc_pureM tm (fun b : List Nat => if (decide (a.length < b.length) && subs a b) = true then some (.d (tm b)) else none) (fam L) fun b hb => ?_) ?_
    · infer_instance
      rw [nums_length, nums_length]
      refine ⟨fun q => ?_, fun q => ?_⟩
      · rw [q_call in_at]
        infer_instance
        rw [ex_eq (in_spec a b (by omega))]
        infer_instance
        refine ⟨fun q2 => ?_, fun q2 => ?_⟩
        · rw [if_pos (by rw [q2, Bool.and_true, decide_eq_true_eq]; omega)]
        · rw [if_neg (by rw [q2, Bool.and_false]; simp)]
      · rw [if_neg (by rw [Bool.and_eq_true, decide_eq_true_eq]; omega)]
    · rw [filterMap_if (fun b : List Nat => (decide (a.length < b.length) && subs a b) = true)]
      infer_instance
      rw [datAll_d tm]
      infer_instance
      have hs2 : ∀ a : List Nat, (List.filter (fun x => decide ((decide (a.length < x.length) && subs a x) = true)) (fam L)) = (fam L).filter fun b => decide (a.length < b.length) && subs a b := fun a => List.filter_congr fun b _ => by simp
      rw [hs2, List.isEmpty_map]
      refine ⟨Nat.le_trans (List.length_filter_le _ _) (by have := hF.few; rw [sizeLine_eq]; omega), fun q => ?_, fun q => ?_⟩
      · rw [if_pos q]
      · rw [if_neg (by rw [q]; simp)]
  · rw [filterMap_if (fun a : List Nat => ((fam L).filter fun b => decide (a.length < b.length) && subs a b).isEmpty = true)]
    infer_instance
    rw [datAll_d tm]
    infer_instance
    have e1 : (List.filter (fun x : List Nat => decide (((fam L).filter fun b => decide (x.length < b.length) && subs x b).isEmpty = true)) (fam L)) = great (fam L) := by
      rw [← lgreat_eq hL]
      unfold lgreat
      exact List.filter_congr fun b _ => Bool.decide_eq_true
    rw [e1]
    exact ⟨by have := great_len hF; rw [sizeLine_eq]; omega, k⟩
end K82


set_option Elab.async false
set_option linter.all false
set_option maxRecDepth 100000
set_option maxHeartbeats 4000000
set_option pp.maxSteps 600
namespace K82
open PySem PySem.Spec PyProof.Rows L2 Vm

local macro_rules | `(tactic| infer_instance) => `(tactic| simp -dsimp only [q_chain, q_rng0, q_rng0T, q_enum, q_star, q_unp, q_dofK, datO_d, star_t, star_pt, star_l, listOf_l, seqL_lst, seqL_dl, q_int, q_bl, q_non, q_str, q_var, q_bor, q_mov, q_bin, q_neg, q_cmp, q_not, q_and, q_or, q_ife, q_tup, q_lst, q_idx, q_slc, q_rev, q_fn, q_mt, q_lcStep, q_lc, q_dnew, q_dof, q_sg, q_sl, q_sp, q_nil, q_cons, q_oeno, q_oeyes, q_ocno, q_ocyes, q_tv, q_tand, q_tor, q_tnot, q_seq, q_rng1, q_rng2, q_zip, q_zips, outK_nx, outK_ret, outK_brk, outK_cnt, q_snil, q_scons, q_set, q_par, q_ifs, q_forStep, q_forr, q_whl, q_ret, q_retn, q_brk, q_cnt, q_pass, q_sw, retP_ret, retS_ret, ex_some, ex_none, ex_iteN, ex_map, ex_bind,
  rdVar, rdBor, rdMov, frz_d, frz_pt, frz_lst, frz_mat, frz_dct, frz_fdct, frz_src, List.getElem?_cons_zero, List.getElem?_cons_succ, St.set, List.set_cons_zero, List.set_cons_succ, Option.map_some, Option.map_none, Option.bind_some, Option.bind_none, isSrc, sget_left, sget_mixed, sget_turn, sput_left, sput_mixed, sput_turn, vw_d, vw_pt, vw_lst, cmp_lt, cmp_gt, cmp_le, cmp_ge, cmp_eqI, cmp_neI, bin_add, bin_sub, tru_b, boolO, intO, put, puts, slot_d, slot_pt, slot_lst, slot_mat, slot_dct, slot_fdct, List.length_cons, List.length_nil, Nat.zero_le, sl_1, sl_2, sl_3, sl_4, sl_5, sl_6, sl_7, sl_8, sl_9, sl_10, sl_11, sl_12, sl_13, sl_14, sl_15, sl_16, sl_17, sl_18, sl_19, sl_20, sl_21, sl_22, sl_23, sl_24, sl_25, sl_26, sl_27, sl_28, sl_29, sl_30, sl_31, sl_32, sl_33, sl_34, sl_35, sl_36, sl_37, sl_38, sl_39, sl_40, Nat.reduceAdd, Nat.reduceLT, Nat.reduceLeDiff, cmp_eqNil, and_true, true_and, and_self, forall_const, true_implies, false_implies, reduceCtorEq, decide_eq_true_eq, decide_eq_false_iff_not, if_true, if_false, Int.reduceNeg, Option.some.injEq, pr_lenL, pr_lenH, pr_lenT, pr_lenD, pr_abs, pr_intI, pr_intB, pr_all, pr_any, pr_sum, pr_max, pr_min, pr_max2, pr_min2, pr_tupL', pr_tupT, pr_listL, pr_listT, pr_sortL, pr_sortD, cmp_isB, cmp_isnB, tru_i, cmp_neNil, add_L, add_T, slc_L, slc_T, rev_L, rev_T, seqP_pt, seqP_lst, seqP_dl, tupO_dat, tupO_frz, tupO_slot, tupO_free, tupO_vw, vwAll, datAll, dat_d, dat_pt, dat_lst, dat_mat, dat_dct0, implies_true, frzAll, vw, vw0, seqOf_l, seqOf_t, mtTy, List.all_cons, List.all_nil, free_d, free_pt, free_lst, free_dct, free_fdct, Bool.and_self, Bool.and_true, Bool.true_and, idx_list, idx_tup, at_c0, at_c1, clr, asg, asgs, List.length_map, Bool.not_eq_true', beq_self_eq_true, Bool.true_eq_false, Bool.not_eq_false', Bool.not_true, Bool.not_false, Bool.false_eq_true])

theorem chunkC {m : Nat} {L : List (List Nat)} (hm : m ≤ 30) (hL : Lots m L) (Q : Out → Prop) (c3 c11 c13 c14 c15 c16 c17 c18 c19 c20 c21 c22 c23 c24 : Option O) (s : Src)
    (k : Ex (x := evSs Ph lb_9 ⟨[none, some .src, some (.lst odds), c3, some (.d (.int (m : Int))), some (.d (.list (L.map tm))), some (.d (famD (m : Int) (fam L))), some (.d (.str (PyData.shown (.list (L.map tm))))), some (.d (famD (m : Int) (fam L))), some (.d (.tuple ((fam L).map tm))), some (.lst ((great (fam L)).map tm)), none, none, some (.d (.int (gsz (fam L)))), some (.lst (nums (szs (fam L)))), none, c16, c17, c18, c19, c20, c21, c22, c23, c24], some s⟩) Q) : Ex (x := evSs Ph lb_7 ⟨[none, some .src, some (.lst odds), c3, some (.d (.int (m : Int))), some (.d (.list (L.map tm))), some (.d (famD (m : Int) (fam L))), some (.d (.str (PyData.shown (.list (L.map tm))))), some (.d (famD (m : Int) (fam L))), some (.d (.tuple ((fam L).map tm))), some (.lst ((great (fam L)).map tm)), none, none, c13, c14, c15, c16, c17, c18, c19, c20, c21, c22, c23, c24], some s⟩) Q := by
  have hF := hL.fam
  have h1 := gsz_lo (fam L)
  have h2 := gsz_hi hF
  have h3 := hF.few
  unfold lb_7
  infer_instance
  refine Ex.of (lc_pureM tm (fun a : List Nat => some (.d (.int (a.length : Int)))) (fam L) fun a ha => ?_) ?_
  · infer_instance
    rw [nums_length]
  · rw [filterMap_some]
    infer_instance
    rw [datAll_d (fun a : List Nat => PyData.int (a.length : Int))]
    infer_instance
    rw [show ((fam L).map fun a : List Nat => PyData.int (a.length : Int)) ++ [PyData.int (0 - 1)] = (((fam L).map fun a : List Nat => (a.length : Int)) ++ [-1]).map PyData.int by rw [List.map_append, List.map_map]; rfl, intsOf_map (fun i : Int => i), List.map_id']
    infer_instance
    rw [max_last, show List.foldl max (-1) ((fam L).map fun a : List Nat => (a.length : Int)) = gsz (fam L) from rfl]
    infer_instance
    refine ⟨by rw [sizeLine_eq]; omega, by rw [sizeLine_eq]; omega, by simp only [inBnd, Bool.and_eq_true, decide_eq_true_eq]; omega, ?_⟩
    rw [rngD0]
    refine Ex.of (lc_pureM (fun k : Nat => PyData.int (k : Int)) (fun k : Nat => some (.d (.int ((ofSz (fam L) k).length : Int)))) (List.range (gsz (fam L) + 1).toNat) fun k hk => ?_) ?_
    · infer_instance
      refine Ex.of (lc_pureM tm (fun a : List Nat => if a.length = k then some (.d (tm a)) else none) (fam L) fun a ha => ?_) ?_
      · infer_instance
        rw [nums_length]
        refine ⟨fun q => ?_, fun q => ?_⟩
        · rw [if_pos (by omega)]
        · rw [if_neg (by omega)]
      · rw [filterMap_if (fun a : List Nat => a.length = k)]
        infer_instance
        rw [datAll_d tm]
        infer_instance
        refine ⟨Nat.le_trans (List.length_filter_le _ _) (by rw [sizeLine_eq]; omega), ?_⟩
        rfl
    · rw [filterMap_some]
      infer_instance
      rw [datAll_d (fun k : Nat => PyData.int ((ofSz (fam L) k).length : Int))]
      infer_instance
      refine ⟨by rw [List.length_range, sizeLine_eq]; omega, ?_⟩
      rw [show (List.range (gsz (fam L) + 1).toNat).map (fun k : Nat => PyData.int ((ofSz (fam L) k).length : Int)) = nums (szs (fam L)) by unfold szs nums; rw [List.map_map]; rfl]
      exact k
end K82


set_option Elab.async false
set_option linter.all false
set_option maxRecDepth 100000
set_option maxHeartbeats 4000000
set_option pp.maxSteps 600
namespace K82
open PySem PySem.Spec PyProof.Rows L2 Vm

local macro_rules | `(tactic| infer_instance) => `(tactic| simp -dsimp only [q_chain, q_rng0, q_rng0T, q_enum, q_star, q_unp, q_dofK, datO_d, star_t, star_pt, star_l, listOf_l, seqL_lst, seqL_dl, q_int, q_bl, q_non, q_str, q_var, q_bor, q_mov, q_bin, q_neg, q_cmp, q_not, q_and, q_or, q_ife, q_tup, q_lst, q_idx, q_slc, q_rev, q_fn, q_mt, q_lcStep, q_lc, q_dnew, q_dof, q_sg, q_sl, q_sp, q_nil, q_cons, q_oeno, q_oeyes, q_ocno, q_ocyes, q_tv, q_tand, q_tor, q_tnot, q_seq, q_rng1, q_rng2, q_zip, q_zips, outK_nx, outK_ret, outK_brk, outK_cnt, q_snil, q_scons, q_set, q_par, q_ifs, q_forStep, q_forr, q_whl, q_ret, q_retn, q_brk, q_cnt, q_pass, q_sw, retP_ret, retS_ret, ex_some, ex_none, ex_iteN, ex_map, ex_bind,
  rdVar, rdBor, rdMov, frz_d, frz_pt, frz_lst, frz_mat, frz_dct, frz_fdct, frz_src, List.getElem?_cons_zero, List.getElem?_cons_succ, St.set, List.set_cons_zero, List.set_cons_succ, Option.map_some, Option.map_none, Option.bind_some, Option.bind_none, isSrc, sget_left, sget_mixed, sget_turn, sput_left, sput_mixed, sput_turn, vw_d, vw_pt, vw_lst, cmp_lt, cmp_gt, cmp_le, cmp_ge, cmp_eqI, cmp_neI, bin_add, bin_sub, tru_b, boolO, intO, put, puts, slot_d, slot_pt, slot_lst, slot_mat, slot_dct, slot_fdct, List.length_cons, List.length_nil, Nat.zero_le, sl_1, sl_2, sl_3, sl_4, sl_5, sl_6, sl_7, sl_8, sl_9, sl_10, sl_11, sl_12, sl_13, sl_14, sl_15, sl_16, sl_17, sl_18, sl_19, sl_20, sl_21, sl_22, sl_23, sl_24, sl_25, sl_26, sl_27, sl_28, sl_29, sl_30, sl_31, sl_32, sl_33, sl_34, sl_35, sl_36, sl_37, sl_38, sl_39, sl_40, Nat.reduceAdd, Nat.reduceLT, Nat.reduceLeDiff, cmp_eqNil, and_true, true_and, and_self, forall_const, true_implies, false_implies, reduceCtorEq, decide_eq_true_eq, decide_eq_false_iff_not, if_true, if_false, Int.reduceNeg, Option.some.injEq, pr_lenL, pr_lenH, pr_lenT, pr_lenD, pr_abs, pr_intI, pr_intB, pr_all, pr_any, pr_sum, pr_max, pr_min, pr_max2, pr_min2, pr_tupL', pr_tupT, pr_listL, pr_listT, pr_sortL, pr_sortD, cmp_isB, cmp_isnB, tru_i, cmp_neNil, add_L, add_T, slc_L, slc_T, rev_L, rev_T, seqP_pt, seqP_lst, seqP_dl, tupO_dat, tupO_frz, tupO_slot, tupO_free, tupO_vw, vwAll, datAll, dat_d, dat_pt, dat_lst, dat_mat, dat_dct0, implies_true, frzAll, vw, vw0, seqOf_l, seqOf_t, mtTy, List.all_cons, List.all_nil, free_d, free_pt, free_lst, free_dct, free_fdct, Bool.and_self, Bool.and_true, Bool.true_and, idx_list, idx_tup, at_c0, at_c1, clr, asg, asgs, List.length_map, Bool.not_eq_true', beq_self_eq_true, Bool.true_eq_false, Bool.not_eq_false', Bool.not_true, Bool.not_false, Bool.false_eq_true])

theorem chunkD {m : Nat} {L : List (List Nat)} (hm : m ≤ 30) (hL : Lots m L) (Q : Out → Prop) (c3 c16 c17 c18 c19 c20 c21 c22 c23 c24 : Option O) (s : Src)
    (k : ∀ p10 : Option O, (p10 = some (.lst ((great (fam L)).map tm)) ∨ p10 = some (.d (.list ((great (fam L)).map tm)))) → Ex (x := evSs Ph lb_10 ⟨[none, some .src, some (.lst odds), c3, some (.d (.int (m : Int))), some (.d (.list (L.map tm))), some (.d (famD (m : Int) (fam L))), some (.d (.str (PyData.shown (.list (L.map tm))))), some (.d (famD (m : Int) (fam L))), some (.d (.tuple ((fam L).map tm))), p10, none, none, some (.d (.int (gsz (fam L)))), some (.lst (nums (szs (fam L)))), none, some (.d (topL (great (fam L)))), c17, c18, c19, c20, c21, c22, c23, c24], some s⟩) Q) : Ex (x := evSs Ph lb_9 ⟨[none, some .src, some (.lst odds), c3, some (.d (.int (m : Int))), some (.d (.list (L.map tm))), some (.d (famD (m : Int) (fam L))), some (.d (.str (PyData.shown (.list (L.map tm))))), some (.d (famD (m : Int) (fam L))), some (.d (.tuple ((fam L).map tm))), some (.lst ((great (fam L)).map tm)), none, none, some (.d (.int (gsz (fam L)))), some (.lst (nums (szs (fam L)))), none, c16, c17, c18, c19, c20, c21, c22, c23, c24], some s⟩) Q := by
  have hF := hL.fam
  have hg := great_len hF
  generalize great (fam L) = G at k hg ⊢
  unfold lb_9
  cases G with
  | nil =>
    infer_instance
    refine ⟨fun q => by simp at q, fun q => ?_⟩
    exact k _ (.inl rfl)
  | cons g gs =>
    infer_instance
    rw [List.map_cons]
    refine ⟨fun q => ?_, fun q => by simp at q⟩
    rw [← List.map_cons]
    refine Ex.of (lc_pureM tm (fun a : List Nat => if ¬ a.length = g.length then some (.d (tm a)) else none) (g :: gs) fun a ha => ?_) ?_
    · infer_instance
      rw [nums_length, List.map_cons]
      infer_instance
      rw [nums_length]
      refine ⟨fun q => ?_, fun q => ?_⟩
      · rw [if_pos (by omega)]
      · rw [if_neg (by omega)]
    · rw [filterMap_if (fun a : List Nat => ¬ a.length = g.length)]
      infer_instance
      rw [datAll_d tm]
      infer_instance
      rw [List.isEmpty_map]
      refine ⟨Nat.le_trans (List.length_filter_le _ _) (by rw [sizeLine_eq]; omega), fun q => ?_, fun q => ?_⟩
      · rw [List.map_cons]
        infer_instance
        rw [nums_length, ← List.map_cons]
        have e : topL (g :: gs) = .int (g.length : Int) := by
          show (if _ then _ else _) = _
          rw [if_pos]
          intro a ha
          rw [List.isEmpty_iff, List.filter_eq_nil_iff] at q
          have := q a ha
          simpa using this
        rw [e] at k
        exact k _ (.inr rfl)
      · have e : topL (g :: gs) = .none := by
          show (if _ then _ else _) = _
          rw [if_neg]
          intro hall
          have : (List.filter (fun x : List Nat => decide ¬x.length = g.length) (g :: gs)) = [] := by
            rw [List.filter_eq_nil_iff]
            intro a ha
            simpa using hall a ha
          rw [this] at q
          cases q
        rw [e] at k
        exact k _ (.inr rfl)
end K82


set_option Elab.async false
set_option linter.all false
set_option maxRecDepth 100000
set_option maxHeartbeats 4000000
set_option pp.maxSteps 600
namespace K82
open PySem PySem.Spec PyProof.Rows L2 Vm

local macro_rules | `(tactic| infer_instance) => `(tactic| simp -dsimp only [q_chain, q_rng0, q_rng0T, q_enum, q_star, q_unp, q_dofK, datO_d, star_t, star_pt, star_l, listOf_l, seqL_lst, seqL_dl, q_int, q_bl, q_non, q_str, q_var, q_bor, q_mov, q_bin, q_neg, q_cmp, q_not, q_and, q_or, q_ife, q_tup, q_lst, q_idx, q_slc, q_rev, q_fn, q_mt, q_lcStep, q_lc, q_dnew, q_dof, q_sg, q_sl, q_sp, q_nil, q_cons, q_oeno, q_oeyes, q_ocno, q_ocyes, q_tv, q_tand, q_tor, q_tnot, q_seq, q_rng1, q_rng2, q_zip, q_zips, outK_nx, outK_ret, outK_brk, outK_cnt, q_snil, q_scons, q_set, q_par, q_ifs, q_forStep, q_forr, q_whl, q_ret, q_retn, q_brk, q_cnt, q_pass, q_sw, retP_ret, retS_ret, ex_some, ex_none, ex_iteN, ex_map, ex_bind,
  rdVar, rdBor, rdMov, frz_d, frz_pt, frz_lst, frz_mat, frz_dct, frz_fdct, frz_src, List.getElem?_cons_zero, List.getElem?_cons_succ, St.set, List.set_cons_zero, List.set_cons_succ, Option.map_some, Option.map_none, Option.bind_some, Option.bind_none, isSrc, sget_left, sget_mixed, sget_turn, sput_left, sput_mixed, sput_turn, vw_d, vw_pt, vw_lst, cmp_lt, cmp_gt, cmp_le, cmp_ge, cmp_eqI, cmp_neI, bin_add, bin_sub, tru_b, boolO, intO, put, puts, slot_d, slot_pt, slot_lst, slot_mat, slot_dct, slot_fdct, List.length_cons, List.length_nil, Nat.zero_le, sl_1, sl_2, sl_3, sl_4, sl_5, sl_6, sl_7, sl_8, sl_9, sl_10, sl_11, sl_12, sl_13, sl_14, sl_15, sl_16, sl_17, sl_18, sl_19, sl_20, sl_21, sl_22, sl_23, sl_24, sl_25, sl_26, sl_27, sl_28, sl_29, sl_30, sl_31, sl_32, sl_33, sl_34, sl_35, sl_36, sl_37, sl_38, sl_39, sl_40, Nat.reduceAdd, Nat.reduceLT, Nat.reduceLeDiff, cmp_eqNil, and_true, true_and, and_self, forall_const, true_implies, false_implies, reduceCtorEq, decide_eq_true_eq, decide_eq_false_iff_not, if_true, if_false, Int.reduceNeg, Option.some.injEq, pr_lenL, pr_lenH, pr_lenT, pr_lenD, pr_abs, pr_intI, pr_intB, pr_all, pr_any, pr_sum, pr_max, pr_min, pr_max2, pr_min2, pr_tupL', pr_tupT, pr_listL, pr_listT, pr_sortL, pr_sortD, cmp_isB, cmp_isnB, tru_i, cmp_neNil, add_L, add_T, slc_L, slc_T, rev_L, rev_T, seqP_pt, seqP_lst, seqP_dl, tupO_dat, tupO_frz, tupO_slot, tupO_free, tupO_vw, vwAll, datAll, dat_d, dat_pt, dat_lst, dat_mat, dat_dct0, implies_true, frzAll, vw, vw0, seqOf_l, seqOf_t, mtTy, List.all_cons, List.all_nil, free_d, free_pt, free_lst, free_dct, free_fdct, Bool.and_self, Bool.and_true, Bool.true_and, idx_list, idx_tup, at_c0, at_c1, clr, asg, asgs, List.length_map, Bool.not_eq_true', beq_self_eq_true, Bool.true_eq_false, Bool.not_eq_false', Bool.not_true, Bool.not_false, Bool.false_eq_true])

theorem chunkE {m : Nat} {L : List (List Nat)} (hm : m ≤ 30) (hL : Lots m L) (Q : Out → Prop) (p10 : Option O) (h10 : p10 = some (.lst ((great (fam L)).map tm)) ∨ p10 = some (.d (.list ((great (fam L)).map tm)))) (c3 c17 c18 c19 c20 c21 c22 c23 c24 : Option O) (s : Src)
    (k : Ex (x := evSs Ph lb_12 ⟨[none, some .src, some (.lst odds), c3, some (.d (.int (m : Int))), some (.d (.list (L.map tm))), some (.d (famD (m : Int) (fam L))), some (.d (.str (PyData.shown (.list (L.map tm))))), some (.d (famD (m : Int) (fam L))), some (.d (.tuple ((fam L).map tm))), p10, none, none, some (.d (.int (gsz (fam L)))), some (.lst (nums (szs (fam L)))), none, some (.d (topL (great (fam L)))), c17, c18, c19, c20, c21, c22, c23, c24], some s⟩) Q) : Ex (x := evSs Ph lb_10 ⟨[none, some .src, some (.lst odds), c3, some (.d (.int (m : Int))), some (.d (.list (L.map tm))), some (.d (famD (m : Int) (fam L))), some (.d (.str (PyData.shown (.list (L.map tm))))), some (.d (famD (m : Int) (fam L))), some (.d (.tuple ((fam L).map tm))), p10, none, none, some (.d (.int (gsz (fam L)))), some (.lst (nums (szs (fam L)))), none, some (.d (topL (great (fam L)))), c17, c18, c19, c20, c21, c22, c23, c24], some s⟩) Q := by
  have hF := hL.fam
  have hg := great_len hF
  have h1 := gsz_lo (fam L)
  have h2 := gsz_hi hF
  have hpl : Pl (.tuple ((great (fam L)).map tm)) 2 6000 := Pl.tup (d := 1) (b := 5) (m := 1000) (fun x hx => by
    obtain ⟨a, ha, rfl⟩ := List.mem_map.1 hx
    have := hL.fasc ((List.mem_filter.1 ha).1)
    exact pl_lot (by omega) this.1 this.2) (by rw [List.length_map]; exact hg)
  have htop : Pl (topL (great (fam L))) 0 0 := by
    cases hG : great (fam L) with
    | nil => exact Pl.none
    | cons g gs =>
      show Pl (if _ then _ else _) 0 0
      split
      · refine Pl.int ?_
        have := (hL.fasc ((List.mem_filter.1 (show g ∈ great (fam L) by rw [hG]; exact List.mem_cons_self)).1)).2
        omega
      · exact Pl.none
  have fA : Fine (.list [.tuple ((great (fam L)).map tm), topL (great (fam L))]) 3 (2 * 6001) := (Pl.list (d := 2) (b := 6000) (m := 2) (fun x hx => by
    simp only [List.mem_cons, List.not_mem_nil, or_false] at hx
    rcases hx with rfl | rfl
    · exact hpl
    · exact htop.mono (by omega) (by omega)) (Nat.le_refl _)).fine
  have hsz : (szs (fam L)).length ≤ 101 := by
    unfold szs
    rw [List.length_map, List.length_range]
    omega
  have hszl : ((szs (fam L)).length : Int) - 1 = gsz (fam L) := by
    unfold szs
    rw [List.length_map, List.length_range]
    omega
  have fB : Fine (.list [.int (gsz (fam L)), tm (szs (fam L))]) 2 (2 * 102) := (Pl.list (d := 1) (b := 101) (m := 2) (fun x hx => by
    simp only [List.mem_cons, List.not_mem_nil, or_false] at hx
    rcases hx with rfl | rfl
    · exact (Pl.int (by omega)).mono (by omega) (by omega)
    · refine pl_tm hsz fun k hk => ?_
      unfold szs at hk
      obtain ⟨j, hj, rfl⟩ := List.mem_map.1 hk
      exact ofSz_len hF j) (Nat.le_refl _)).fine
  have go : Ex (x := evSs Ph lb_10 ⟨[none, some .src, some (.lst odds), c3, some (.d (.int (m : Int))), some (.d (.list (L.map tm))), some (.d (famD (m : Int) (fam L))), some (.d (.str (PyData.shown (.list (L.map tm))))), some (.d (famD (m : Int) (fam L))), some (.d (.tuple ((fam L).map tm))), p10, none, none, some (.d (.int (gsz (fam L)))), some (.lst (nums (szs (fam L)))), none, some (.d (topL (great (fam L)))), c17, c18, c19, c20, c21, c22, c23, c24], some s⟩) Q := by
    unfold lb_10
    rcases h10 with rfl | rfl
    all_goals
      infer_instance
      rw [q_call great_at]
      infer_instance
      rw [ex_eq (great_spec (Φ := Ph6) (Φ1 := Ph2) rfl (m : Int) hF)]
      infer_instance
      rw [q_call top_at]
      infer_instance
      rw [ex_eq (top_spec (Φ := Ph7) (Φ1 := Ph6) (Φ2 := Ph2) rfl rfl (m : Int) hF), topD_eq]
      infer_instance
      rw [fA.repr (by omega) (by omega)]
      infer_instance
      rw [fA.repr (by omega) (by omega)]
      infer_instance
      rw [fA.ne]
      infer_instance
      rw [q_call gsz_at]
      infer_instance
      rw [ex_eq (gsz_spec (Φ := Ph9) (m : Int) hF)]
      infer_instance
      rw [q_call sizes_at]
      infer_instance
      rw [ex_eq (sizes_spec (Φ := Ph10) (Φ1 := Ph8) (Φ2 := Ph9) rfl rfl (m : Int) hF)]
      infer_instance
      rw [fB.repr (by omega) (by omega)]
      infer_instance
      rw [nums_length, hszl, fB.repr (by omega) (by omega)]
      infer_instance
      rw [fB.ne]
      infer_instance
      exact k
  exact go
end K82


set_option Elab.async false
set_option linter.all false
set_option maxRecDepth 100000
set_option maxHeartbeats 4000000
set_option pp.maxSteps 600
namespace K82
open PySem PySem.Spec PyProof.Rows L2 Vm

local macro_rules | `(tactic| infer_instance) => `(tactic| simp -dsimp only [q_chain, q_rng0, q_rng0T, q_enum, q_star, q_unp, q_dofK, datO_d, star_t, star_pt, star_l, listOf_l, seqL_lst, seqL_dl, q_int, q_bl, q_non, q_str, q_var, q_bor, q_mov, q_bin, q_neg, q_cmp, q_not, q_and, q_or, q_ife, q_tup, q_lst, q_idx, q_slc, q_rev, q_fn, q_mt, q_lcStep, q_lc, q_dnew, q_dof, q_sg, q_sl, q_sp, q_nil, q_cons, q_oeno, q_oeyes, q_ocno, q_ocyes, q_tv, q_tand, q_tor, q_tnot, q_seq, q_rng1, q_rng2, q_zip, q_zips, outK_nx, outK_ret, outK_brk, outK_cnt, q_snil, q_scons, q_set, q_par, q_ifs, q_forStep, q_forr, q_whl, q_ret, q_retn, q_brk, q_cnt, q_pass, q_sw, retP_ret, retS_ret, ex_some, ex_none, ex_iteN, ex_map, ex_bind,
  rdVar, rdBor, rdMov, frz_d, frz_pt, frz_lst, frz_mat, frz_dct, frz_fdct, frz_src, List.getElem?_cons_zero, List.getElem?_cons_succ, St.set, List.set_cons_zero, List.set_cons_succ, Option.map_some, Option.map_none, Option.bind_some, Option.bind_none, isSrc, sget_left, sget_mixed, sget_turn, sput_left, sput_mixed, sput_turn, vw_d, vw_pt, vw_lst, cmp_lt, cmp_gt, cmp_le, cmp_ge, cmp_eqI, cmp_neI, bin_add, bin_sub, tru_b, boolO, intO, put, puts, slot_d, slot_pt, slot_lst, slot_mat, slot_dct, slot_fdct, List.length_cons, List.length_nil, Nat.zero_le, sl_1, sl_2, sl_3, sl_4, sl_5, sl_6, sl_7, sl_8, sl_9, sl_10, sl_11, sl_12, sl_13, sl_14, sl_15, sl_16, sl_17, sl_18, sl_19, sl_20, sl_21, sl_22, sl_23, sl_24, sl_25, sl_26, sl_27, sl_28, sl_29, sl_30, sl_31, sl_32, sl_33, sl_34, sl_35, sl_36, sl_37, sl_38, sl_39, sl_40, Nat.reduceAdd, Nat.reduceLT, Nat.reduceLeDiff, cmp_eqNil, and_true, true_and, and_self, forall_const, true_implies, false_implies, reduceCtorEq, decide_eq_true_eq, decide_eq_false_iff_not, if_true, if_false, Int.reduceNeg, Option.some.injEq, pr_lenL, pr_lenH, pr_lenT, pr_lenD, pr_abs, pr_intI, pr_intB, pr_all, pr_any, pr_sum, pr_max, pr_min, pr_max2, pr_min2, pr_tupL', pr_tupT, pr_listL, pr_listT, pr_sortL, pr_sortD, cmp_isB, cmp_isnB, tru_i, cmp_neNil, add_L, add_T, slc_L, slc_T, rev_L, rev_T, seqP_pt, seqP_lst, seqP_dl, tupO_dat, tupO_frz, tupO_slot, tupO_free, tupO_vw, vwAll, datAll, dat_d, dat_pt, dat_lst, dat_mat, dat_dct0, implies_true, frzAll, vw, vw0, seqOf_l, seqOf_t, mtTy, List.all_cons, List.all_nil, free_d, free_pt, free_lst, free_dct, free_fdct, Bool.and_self, Bool.and_true, Bool.true_and, idx_list, idx_tup, at_c0, at_c1, clr, asg, asgs, List.length_map, Bool.not_eq_true', beq_self_eq_true, Bool.true_eq_false, Bool.not_eq_false', Bool.not_true, Bool.not_false, Bool.false_eq_true])

def encKC (p : Nat × Nat) : PyData := .tuple [.int (p.1 : Int), .int (p.2 : Int)]
theorem enum_nums : ∀ (xs : List Nat) (i : Nat), enumD (i : Int) (nums xs) = ((List.range xs.length).map fun k => encKC (k + i, xs.getD k 0))
  | [], i => rfl
  | x :: xs, i => by
    show PyData.tuple [.int (i : Int), .int (x : Int)] :: enumD ((i : Int) + 1) (nums xs) = _
    rw [show (i : Int) + 1 = ((i + 1 : Nat) : Int) by omega, enum_nums xs (i + 1), List.length_cons, List.range_succ_eq_map, List.map_cons, List.map_map]
    congr 1
    · rw [encKC, Nat.zero_add]; rfl
    · refine List.map_congr_left fun k _ => ?_
      show encKC (k + (i + 1), xs.getD k 0) = encKC (k + 1 + i, (x :: xs).getD (k + 1) 0)
      rw [show k + (i + 1) = k + 1 + i by omega]
      rfl
theorem enum_szs (F : List (List Nat)) : enumD 0 (nums (szs F)) = ((List.range (gsz F + 1).toNat).map fun k => (k, (ofSz F k).length)).map encKC := by
  have := enum_nums (szs F) 0
  rw [show ((0 : Nat) : Int) = 0 from rfl] at this
  rw [this, List.map_map]
  have hl : (szs F).length = (gsz F + 1).toNat := by unfold szs; rw [List.length_map, List.length_range]
  rw [hl]
  refine List.map_congr_left fun k hk => ?_
  show encKC (k + 0, (szs F).getD k 0) = encKC (k, (ofSz F k).length)
  have hk2 : k < (szs F).length := by rw [hl]; exact List.mem_range.1 hk
  have e : (szs F)[k]? = some (ofSz F k).length := by
    unfold szs
    rw [List.getElem?_map, List.getElem?_range (List.mem_range.1 hk)]
    rfl
  rw [List.getD_eq_getElem?_getD, e]
  rfl
theorem sgn_le (F : List (List Nat)) : (sgn F).natAbs ≤ F.length := by
  unfold sgn
  induction F with
  | nil => exact Nat.le_refl _
  | cons a F ih =>
    rw [List.map_cons, List.sum_cons, List.length_cons]
    omega
theorem chunkF {m : Nat} {L : List (List Nat)} (hm : m ≤ 30) (hL : Lots m L) (Q : Out → Prop) (p10 : Option O) (c3 c17 c18 c19 c20 c21 c22 c23 c24 : Option O) (s : Src)
    (k : Ex (x := evSs Ph lb_14 ⟨[none, some .src, some (.lst odds), c3, some (.d (.int (m : Int))), some (.d (.list (L.map tm))), some (.d (famD (m : Int) (fam L))), some (.d (.str (PyData.shown (.list (L.map tm))))), some (.d (famD (m : Int) (fam L))), some (.d (.tuple ((fam L).map tm))), p10, none, none, some (.d (.int (gsz (fam L)))), some (.d (.list (nums (szs (fam L))))), none, some (.d (topL (great (fam L)))), some (.d (.int (sgn (fam L)))), none, c19, c20, c21, c22, c23, c24], some s⟩) Q) : Ex (x := evSs Ph lb_12 ⟨[none, some .src, some (.lst odds), c3, some (.d (.int (m : Int))), some (.d (.list (L.map tm))), some (.d (famD (m : Int) (fam L))), some (.d (.str (PyData.shown (.list (L.map tm))))), some (.d (famD (m : Int) (fam L))), some (.d (.tuple ((fam L).map tm))), p10, none, none, some (.d (.int (gsz (fam L)))), some (.lst (nums (szs (fam L)))), none, some (.d (topL (great (fam L)))), c17, c18, c19, c20, c21, c22, c23, c24], some s⟩) Q := by
  have hF := hL.fam
  have h1 := gsz_lo (fam L)
  have h2 := gsz_hi hF
  unfold lb_12
  infer_instance
  rw [enum_szs]
  refine Ex.of (lc_pureM encKC (fun p : Nat × Nat => some (.d (.int (sgc p)))) ((List.range (gsz (fam L) + 1).toNat).map fun k => (k, (ofSz (fam L) k).length)) fun p hp => ?_) ?_
  · unfold encKC
    infer_instance
    rw [bin_fmod (by decide)]
    infer_instance
    unfold sgc
    exact ⟨fun q => by rw [if_pos q], fun q => by rw [if_neg q]⟩
  · rw [filterMap_some]
    infer_instance
    rw [datAll_d (fun p : Nat × Nat => PyData.int (sgc p))]
    infer_instance
    rw [intsOf_map]
    infer_instance
    have hs : (((List.range (gsz (fam L) + 1).toNat).map fun k => (k, (ofSz (fam L) k).length)).map sgc).sum = sgn (fam L) := by
      rw [List.map_map]
      exact sgn_law (fam L)
    rw [hs]
    refine ⟨by rw [List.length_range, sizeLine_eq]; omega, ?_⟩
    rw [q_call sign_at]
    infer_instance
    rw [ex_eq (sign_spec (Φ := Ph11) (m : Int) hF)]
    infer_instance
    have ff : Fine (.int (sgn (fam L))) 0 0 := (Pl.int (by have := sgn_le (fam L); have := hF.few; omega)).fine
    rw [ff.repr (by omega) (by omega)]
    infer_instance
    rw [ff.repr (by omega) (by omega)]
    infer_instance
    rw [ff.ne]
    infer_instance
    exact k
end K82


set_option Elab.async false
set_option linter.all false
set_option maxRecDepth 100000
set_option maxHeartbeats 4000000
set_option pp.maxSteps 600
namespace K82
open PySem PySem.Spec PyProof.Rows L2 Vm

local macro_rules | `(tactic| infer_instance) => `(tactic| simp -dsimp only [q_chain, q_rng0, q_rng0T, q_enum, q_star, q_unp, q_dofK, datO_d, star_t, star_pt, star_l, listOf_l, seqL_lst, seqL_dl, q_int, q_bl, q_non, q_str, q_var, q_bor, q_mov, q_bin, q_neg, q_cmp, q_not, q_and, q_or, q_ife, q_tup, q_lst, q_idx, q_slc, q_rev, q_fn, q_mt, q_lcStep, q_lc, q_dnew, q_dof, q_sg, q_sl, q_sp, q_nil, q_cons, q_oeno, q_oeyes, q_ocno, q_ocyes, q_tv, q_tand, q_tor, q_tnot, q_seq, q_rng1, q_rng2, q_zip, q_zips, outK_nx, outK_ret, outK_brk, outK_cnt, q_snil, q_scons, q_set, q_par, q_ifs, q_forStep, q_forr, q_whl, q_ret, q_retn, q_brk, q_cnt, q_pass, q_sw, retP_ret, retS_ret, ex_some, ex_none, ex_iteN, ex_map, ex_bind,
  rdVar, rdBor, rdMov, frz_d, frz_pt, frz_lst, frz_mat, frz_dct, frz_fdct, frz_src, List.getElem?_cons_zero, List.getElem?_cons_succ, St.set, List.set_cons_zero, List.set_cons_succ, Option.map_some, Option.map_none, Option.bind_some, Option.bind_none, isSrc, sget_left, sget_mixed, sget_turn, sput_left, sput_mixed, sput_turn, vw_d, vw_pt, vw_lst, cmp_lt, cmp_gt, cmp_le, cmp_ge, cmp_eqI, cmp_neI, bin_add, bin_sub, tru_b, boolO, intO, put, puts, slot_d, slot_pt, slot_lst, slot_mat, slot_dct, slot_fdct, List.length_cons, List.length_nil, Nat.zero_le, sl_1, sl_2, sl_3, sl_4, sl_5, sl_6, sl_7, sl_8, sl_9, sl_10, sl_11, sl_12, sl_13, sl_14, sl_15, sl_16, sl_17, sl_18, sl_19, sl_20, sl_21, sl_22, sl_23, sl_24, sl_25, sl_26, sl_27, sl_28, sl_29, sl_30, sl_31, sl_32, sl_33, sl_34, sl_35, sl_36, sl_37, sl_38, sl_39, sl_40, Nat.reduceAdd, Nat.reduceLT, Nat.reduceLeDiff, cmp_eqNil, and_true, true_and, and_self, forall_const, true_implies, false_implies, reduceCtorEq, decide_eq_true_eq, decide_eq_false_iff_not, if_true, if_false, Int.reduceNeg, Option.some.injEq, pr_lenL, pr_lenH, pr_lenT, pr_lenD, pr_abs, pr_intI, pr_intB, pr_all, pr_any, pr_sum, pr_max, pr_min, pr_max2, pr_min2, pr_tupL', pr_tupT, pr_listL, pr_listT, pr_sortL, pr_sortD, cmp_isB, cmp_isnB, tru_i, cmp_neNil, add_L, add_T, slc_L, slc_T, rev_L, rev_T, seqP_pt, seqP_lst, seqP_dl, tupO_dat, tupO_frz, tupO_slot, tupO_free, tupO_vw, vwAll, datAll, dat_d, dat_pt, dat_lst, dat_mat, dat_dct0, implies_true, frzAll, vw, vw0, seqOf_l, seqOf_t, mtTy, List.all_cons, List.all_nil, free_d, free_pt, free_lst, free_dct, free_fdct, Bool.and_self, Bool.and_true, Bool.true_and, idx_list, idx_tup, at_c0, at_c1, clr, asg, asgs, List.length_map, Bool.not_eq_true', beq_self_eq_true, Bool.true_eq_false, Bool.not_eq_false', Bool.not_true, Bool.not_false, Bool.false_eq_true])

theorem chunkG {m : Nat} {L : List (List Nat)} (hm : m ≤ 30) (hL : Lots m L) (Q : Out → Prop) (p10 : Option O) (c3 c19 c20 c21 c22 c23 c24 : Option O) (s : Src)
    (k : ∀ c19 c20 : Option O, Ex (x := evSs Ph lb_15 ⟨[none, some .src, some (.lst odds), c3, some (.d (.int (m : Int))), some (.d (.list (L.map tm))), some (.d (famD (m : Int) (fam L))), some (.d (.str (PyData.shown (.list (L.map tm))))), some (.d (famD (m : Int) (fam L))), some (.d (.tuple ((fam L).map tm))), p10, none, none, some (.d (.int (gsz (fam L)))), some (.d (.list (nums (szs (fam L))))), none, some (.d (topL (great (fam L)))), some (.d (.int (sgn (fam L)))), none, c19, c20, c21, c22, c23, c24], some s⟩) Q) : Ex (x := evSs Ph lb_14 ⟨[none, some .src, some (.lst odds), c3, some (.d (.int (m : Int))), some (.d (.list (L.map tm))), some (.d (famD (m : Int) (fam L))), some (.d (.str (PyData.shown (.list (L.map tm))))), some (.d (famD (m : Int) (fam L))), some (.d (.tuple ((fam L).map tm))), p10, none, none, some (.d (.int (gsz (fam L)))), some (.d (.list (nums (szs (fam L))))), none, some (.d (topL (great (fam L)))), some (.d (.int (sgn (fam L)))), none, c19, c20, c21, c22, c23, c24], some s⟩) Q := by
  have hF := hL.fam
  have h1 := gsz_lo (fam L)
  have h2 := gsz_hi hF
  have hl : (szs (fam L)).length ≤ 101 := by unfold szs; rw [List.length_map, List.length_range]; omega
  unfold lb_14
  infer_instance
  rw [nums_length]
  refine ⟨by simp only [inBnd, Bool.and_eq_true, decide_eq_true_eq]; omega, ?_⟩
  rw [rngD0]
  refine for_pre (fun k : Nat => PyData.int (k : Int)) (fun done st => ∃ c19 c20 : Option O, st = ⟨[none, some .src, some (.lst odds), c3, some (.d (.int (m : Int))), some (.d (.list (L.map tm))), some (.d (famD (m : Int) (fam L))), some (.d (.str (PyData.shown (.list (L.map tm))))), some (.d (famD (m : Int) (fam L))), some (.d (.tuple ((fam L).map tm))), p10, none, none, some (.d (.int (gsz (fam L)))), some (.d (.list (nums (szs (fam L))))), none, some (.d (topL (great (fam L)))), some (.d (.int (sgn (fam L)))), none, c19, c20, c21, c22, c23, c24], some s⟩) (List.range (((szs (fam L)).length : Int) + 1).toNat) _ ⟨_, _, rfl⟩ ?_ ?_
  · rintro done j r st e ⟨c19, c20, rfl⟩
    infer_instance
    refine Ex.of (lc_pureM tm (fun a : List Nat => if a.length = j then some (.d (tm a)) else none) (fam L) fun a ha => ?_) ?_
    · infer_instance
      rw [nums_length]
      refine ⟨fun q => ?_, fun q => ?_⟩
      · rw [if_pos (by omega)]
      · rw [if_neg (by omega)]
    · rw [filterMap_if (fun a : List Nat => a.length = j)]
      infer_instance
      rw [datAll_d tm]
      infer_instance
      have hz := ofSz_len hF j
      rw [show List.filter (fun x : List Nat => decide (x.length = j)) (fam L) = ofSz (fam L) j from rfl]
      refine ⟨by rw [sizeLine_eq]; omega, ?_⟩
      rw [q_call ofsize_at]
      infer_instance
      rw [ex_eq (ofsize_spec (Φ := Ph8) (m : Int) hF j)]
      have hpl : Fine (.tuple ((ofSz (fam L) j).map tm)) 2 6000 := (Pl.tup (d := 1) (b := 5) (m := 1000) (fun x hx => by
        obtain ⟨a, ha, rfl⟩ := List.mem_map.1 hx
        have := hL.fasc (List.mem_filter.1 ha).1
        exact pl_lot (by omega) this.1 this.2) (by rw [List.length_map]; exact hz)).fine
      rcases tupO_or ((ofSz (fam L) j).map tm) with e | e
      all_goals
        rw [e]
        infer_instance
        rw [hpl.repr (by omega) (by omega)]
        infer_instance
        rw [hpl.repr (by omega) (by omega)]
        infer_instance
        rw [hpl.ne]
        infer_instance
        exact ⟨_, _, rfl⟩
  · rintro st ⟨c19, c20, rfl⟩
    infer_instance
    exact k c19 c20
end K82


set_option Elab.async false
set_option linter.all false
set_option maxRecDepth 100000
set_option maxHeartbeats 4000000
set_option pp.maxSteps 600
namespace K82
open PySem PySem.Spec PyProof.Rows L2 Vm

local macro_rules | `(tactic| infer_instance) => `(tactic| simp -dsimp only [q_chain, q_rng0, q_rng0T, q_enum, q_star, q_unp, q_dofK, datO_d, star_t, star_pt, star_l, listOf_l, seqL_lst, seqL_dl, q_int, q_bl, q_non, q_str, q_var, q_bor, q_mov, q_bin, q_neg, q_cmp, q_not, q_and, q_or, q_ife, q_tup, q_lst, q_idx, q_slc, q_rev, q_fn, q_mt, q_lcStep, q_lc, q_dnew, q_dof, q_sg, q_sl, q_sp, q_nil, q_cons, q_oeno, q_oeyes, q_ocno, q_ocyes, q_tv, q_tand, q_tor, q_tnot, q_seq, q_rng1, q_rng2, q_zip, q_zips, outK_nx, outK_ret, outK_brk, outK_cnt, q_snil, q_scons, q_set, q_par, q_ifs, q_forStep, q_forr, q_whl, q_ret, q_retn, q_brk, q_cnt, q_pass, q_sw, retP_ret, retS_ret, ex_some, ex_none, ex_iteN, ex_map, ex_bind,
  rdVar, rdBor, rdMov, frz_d, frz_pt, frz_lst, frz_mat, frz_dct, frz_fdct, frz_src, List.getElem?_cons_zero, List.getElem?_cons_succ, St.set, List.set_cons_zero, List.set_cons_succ, Option.map_some, Option.map_none, Option.bind_some, Option.bind_none, isSrc, sget_left, sget_mixed, sget_turn, sput_left, sput_mixed, sput_turn, vw_d, vw_pt, vw_lst, cmp_lt, cmp_gt, cmp_le, cmp_ge, cmp_eqI, cmp_neI, bin_add, bin_sub, tru_b, boolO, intO, put, puts, slot_d, slot_pt, slot_lst, slot_mat, slot_dct, slot_fdct, List.length_cons, List.length_nil, Nat.zero_le, sl_1, sl_2, sl_3, sl_4, sl_5, sl_6, sl_7, sl_8, sl_9, sl_10, sl_11, sl_12, sl_13, sl_14, sl_15, sl_16, sl_17, sl_18, sl_19, sl_20, sl_21, sl_22, sl_23, sl_24, sl_25, sl_26, sl_27, sl_28, sl_29, sl_30, sl_31, sl_32, sl_33, sl_34, sl_35, sl_36, sl_37, sl_38, sl_39, sl_40, Nat.reduceAdd, Nat.reduceLT, Nat.reduceLeDiff, cmp_eqNil, and_true, true_and, and_self, forall_const, true_implies, false_implies, reduceCtorEq, decide_eq_true_eq, decide_eq_false_iff_not, if_true, if_false, Int.reduceNeg, Option.some.injEq, pr_lenL, pr_lenH, pr_lenT, pr_lenD, pr_abs, pr_intI, pr_intB, pr_all, pr_any, pr_sum, pr_max, pr_min, pr_max2, pr_min2, pr_tupL', pr_tupT, pr_listL, pr_listT, pr_sortL, pr_sortD, cmp_isB, cmp_isnB, tru_i, cmp_neNil, add_L, add_T, slc_L, slc_T, rev_L, rev_T, seqP_pt, seqP_lst, seqP_dl, tupO_dat, tupO_frz, tupO_slot, tupO_free, tupO_vw, vwAll, datAll, dat_d, dat_pt, dat_lst, dat_mat, dat_dct0, implies_true, frzAll, vw, vw0, seqOf_l, seqOf_t, mtTy, List.all_cons, List.all_nil, free_d, free_pt, free_lst, free_dct, free_fdct, Bool.and_self, Bool.and_true, Bool.true_and, idx_list, idx_tup, at_c0, at_c1, clr, asg, asgs, List.length_map, Bool.not_eq_true', beq_self_eq_true, Bool.true_eq_false, Bool.not_eq_false', Bool.not_true, Bool.not_false, Bool.false_eq_true])

theorem chunkH {m : Nat} {L : List (List Nat)} (hm : m ≤ 30) (hL : Lots m L) (Q : Out → Prop) (p10 : Option O) (c3 c19 c20 c21 c22 c23 c24 : Option O) (s : Src) (hs : s.cells.length ≤ 63)
    (k : ∀ (a : List Nat) (s : Src), a.length ≤ 5 → (∀ k ∈ a, k ≤ 30) → s.cells.length ≤ 63 → Ex (x := evSs Ph lb_17 ⟨[none, some .src, some (.lst odds), c3, some (.d (.int (m : Int))), some (.d (.list (L.map tm))), some (.d (famD (m : Int) (fam L))), some (.d (.str (PyData.shown (.list (L.map tm))))), some (.d (famD (m : Int) (fam L))), some (.d (.tuple ((fam L).map tm))), p10, some (.d (tm a)), none, some (.d (.int (gsz (fam L)))), some (.d (.list (nums (szs (fam L))))), none, some (.d (topL (great (fam L)))), some (.d (.int (sgn (fam L)))), none, c19, c20, c21, c22, c23, c24], some s⟩) Q) : Ex (x := evSs Ph lb_15 ⟨[none, some .src, some (.lst odds), c3, some (.d (.int (m : Int))), some (.d (.list (L.map tm))), some (.d (famD (m : Int) (fam L))), some (.d (.str (PyData.shown (.list (L.map tm))))), some (.d (famD (m : Int) (fam L))), some (.d (.tuple ((fam L).map tm))), p10, none, none, some (.d (.int (gsz (fam L)))), some (.d (.list (nums (szs (fam L))))), none, some (.d (topL (great (fam L)))), some (.d (.int (sgn (fam L)))), none, c19, c20, c21, c22, c23, c24], some s⟩) Q := by
  have hF := hL.fam
  have h3 := hF.few
  unfold lb_15
  infer_instance
  rw [q_calls of_at]
  infer_instance
  refine ⟨by rw [sizeLine_eq]; omega, ?_⟩
  generalize hX : (fam L).map tm ++ [PyData.tuple [PyData.int 0, PyData.int 2, PyData.int 3]] = X
  have hX1 : X ≠ [] := by rw [← hX]; simp
  have hX2 : X.length < 1000000 := by rw [← hX, List.length_append, List.length_map]; show _ + 1 < _; omega
  refine (of_spec of_pick s (.list X) rfl hX1 hX2 hs).mono fun r ⟨x, hx, s1, e, hs1⟩ => ?_
  rw [← hX] at hx
  subst e
  obtain ⟨a, rfl, ha5, ha30⟩ : ∃ a : List Nat, x = tm a ∧ a.length ≤ 5 ∧ ∀ k ∈ a, k ≤ 30 := by
    rcases List.mem_append.1 hx with hx | hx
    · obtain ⟨a, ha, rfl⟩ := List.mem_map.1 hx
      obtain ⟨g1, g2⟩ := hL.fasc ha
      exact ⟨a, rfl, g2, fun k hk => by have := g1.2 k hk; omega⟩
    · rw [List.mem_singleton.1 hx]
      refine ⟨[0, 2, 3], rfl, by decide, by decide⟩
  infer_instance
  have h0 := k a s1 ha5 ha30 hs1
  have ps : ∀ b : List Nat, b.Sublist a → Pl (tm b) 1 5 := fun b hb => pl_tm (Nat.le_trans hb.length_le ha5) fun k hk => by have := ha30 k (hb.subset hk); omega
  have fs : Fine (.list ((sides a).map tm)) 2 30 := (Pl.list (d := 1) (b := 5) (m := 5) (fun x hx => by
    obtain ⟨b, hb, rfl⟩ := List.mem_map.1 hx
    exact ps b (sides_sub hb)) (by rw [List.length_map, sides_length]; exact ha5)).fine
  have fp : Pl (.list ((srtL (parts a)).map tm)) 2 192 := Pl.list (d := 1) (b := 5) (m := 32) (fun x hx => by
    obtain ⟨b, hb, rfl⟩ := List.mem_map.1 hx
    exact ps b (mem_parts.1 (mem_srtL.1 hb))) (by rw [List.length_map, (srtL_perm _).length_eq, parts_len]; exact Nat.pow_le_pow_right (by decide) ha5)
  rw [q_call sides_at]
  infer_instance
  rw [ex_eq (sides_spec (Φ := Ph2) a (by omega))]
  infer_instance
  rw [fs.repr (by omega) (by omega)]
  infer_instance
  rw [q_call lsides_at]
  infer_instance
  rw [ex_eq (lawsides_spec (Φ := Ph18) a (by omega))]
  infer_instance
  rw [fs.repr (by omega) (by omega)]
  infer_instance
  rw [fs.ne]
  infer_instance
  rw [q_call parts_at]
  infer_instance
  rw [ex_eq (parts_spec (Φ := Ph3) a (by omega))]
  infer_instance
  rw [sortable_tms]
  infer_instance
  rw [q_call lparts_at]
  infer_instance
  rw [ex_eq (lawparts_spec (Φ := Ph16) a (by omega))]
  infer_instance
  rw [sortable_tms]
  infer_instance
  rw [srtL_tm, fp.ne_same (by omega)]
  infer_instance
  exact h0
end K82


set_option Elab.async false
set_option linter.all false
set_option maxRecDepth 100000
set_option maxHeartbeats 4000000
set_option pp.maxSteps 600
namespace K82
open PySem PySem.Spec PyProof.Rows L2 Vm

local macro_rules | `(tactic| infer_instance) => `(tactic| simp -dsimp only [q_chain, q_rng0, q_rng0T, q_enum, q_star, q_unp, q_dofK, datO_d, star_t, star_pt, star_l, listOf_l, seqL_lst, seqL_dl, q_int, q_bl, q_non, q_str, q_var, q_bor, q_mov, q_bin, q_neg, q_cmp, q_not, q_and, q_or, q_ife, q_tup, q_lst, q_idx, q_slc, q_rev, q_fn, q_mt, q_lcStep, q_lc, q_dnew, q_dof, q_sg, q_sl, q_sp, q_nil, q_cons, q_oeno, q_oeyes, q_ocno, q_ocyes, q_tv, q_tand, q_tor, q_tnot, q_seq, q_rng1, q_rng2, q_zip, q_zips, outK_nx, outK_ret, outK_brk, outK_cnt, q_snil, q_scons, q_set, q_par, q_ifs, q_forStep, q_forr, q_whl, q_ret, q_retn, q_brk, q_cnt, q_pass, q_sw, retP_ret, retS_ret, ex_some, ex_none, ex_iteN, ex_map, ex_bind,
  rdVar, rdBor, rdMov, frz_d, frz_pt, frz_lst, frz_mat, frz_dct, frz_fdct, frz_src, List.getElem?_cons_zero, List.getElem?_cons_succ, St.set, List.set_cons_zero, List.set_cons_succ, Option.map_some, Option.map_none, Option.bind_some, Option.bind_none, isSrc, sget_left, sget_mixed, sget_turn, sput_left, sput_mixed, sput_turn, vw_d, vw_pt, vw_lst, cmp_lt, cmp_gt, cmp_le, cmp_ge, cmp_eqI, cmp_neI, bin_add, bin_sub, tru_b, boolO, intO, put, puts, slot_d, slot_pt, slot_lst, slot_mat, slot_dct, slot_fdct, List.length_cons, List.length_nil, Nat.zero_le, sl_1, sl_2, sl_3, sl_4, sl_5, sl_6, sl_7, sl_8, sl_9, sl_10, sl_11, sl_12, sl_13, sl_14, sl_15, sl_16, sl_17, sl_18, sl_19, sl_20, sl_21, sl_22, sl_23, sl_24, sl_25, sl_26, sl_27, sl_28, sl_29, sl_30, sl_31, sl_32, sl_33, sl_34, sl_35, sl_36, sl_37, sl_38, sl_39, sl_40, Nat.reduceAdd, Nat.reduceLT, Nat.reduceLeDiff, cmp_eqNil, and_true, true_and, and_self, forall_const, true_implies, false_implies, reduceCtorEq, decide_eq_true_eq, decide_eq_false_iff_not, if_true, if_false, Int.reduceNeg, Option.some.injEq, pr_lenL, pr_lenH, pr_lenT, pr_lenD, pr_abs, pr_intI, pr_intB, pr_all, pr_any, pr_sum, pr_max, pr_min, pr_max2, pr_min2, pr_tupL', pr_tupT, pr_listL, pr_listT, pr_sortL, pr_sortD, cmp_isB, cmp_isnB, tru_i, cmp_neNil, add_L, add_T, slc_L, slc_T, rev_L, rev_T, seqP_pt, seqP_lst, seqP_dl, tupO_dat, tupO_frz, tupO_slot, tupO_free, tupO_vw, vwAll, datAll, dat_d, dat_pt, dat_lst, dat_mat, dat_dct0, implies_true, frzAll, vw, vw0, seqOf_l, seqOf_t, mtTy, List.all_cons, List.all_nil, free_d, free_pt, free_lst, free_dct, free_fdct, Bool.and_self, Bool.and_true, Bool.true_and, idx_list, idx_tup, at_c0, at_c1, clr, asg, asgs, List.length_map, Bool.not_eq_true', beq_self_eq_true, Bool.true_eq_false, Bool.not_eq_false', Bool.not_true, Bool.not_false, Bool.false_eq_true])

theorem val_of {xs : List PyData} (h : ∀ x ∈ xs, (∃ i : Int, x = .int i ∧ i.natAbs < 10 ^ 38) ∨ (∃ ls, x = .tuple ls ∧ Lsts 400 ls)) (hl : xs.length ≤ 3) : Val (.tuple xs) ∧ Val (.list xs) := by
  have hp : ∀ x ∈ xs, Pl x 2 (400 * 41) := fun x hx => by
    rcases h x hx with ⟨i, rfl, hi⟩ | ⟨ls, rfl, g1, g2⟩
    · exact (Pl.int hi).mono (by omega) (by omega)
    · exact Pl.tup g1 g2
  refine ⟨⟨(Pl.tup hp hl).fine.mono (by omega) (by omega), ?_⟩, ⟨(Pl.list hp hl).fine.mono (by omega) (by omega), fun xs ls e => by cases e⟩⟩
  intro ys ls e hls zs e2 y hy ws e3
  cases e
  rcases h ls hls with ⟨i, rfl, hi⟩ | ⟨ls, rfl, g1, g2⟩
  · cases e2
  · cases e2
    exact pl_len (g1 y hy) e3
theorem odds_val : ∀ x ∈ odds, Val x := by
  intro x hx
  simp only [odds, List.mem_cons, List.not_mem_nil, or_false] at hx
  rcases hx with rfl | rfl | rfl | rfl | rfl | rfl | rfl | rfl | rfl | rfl | rfl | rfl | rfl | rfl | rfl
  all_goals first
  | exact val_pl (d := 4) ⟨by decide +kernel, by decide +kernel, by decide +kernel, by decide +kernel⟩ (by omega)
  | exact ⟨⟨by decide +kernel, by decide +kernel, by decide +kernel, by decide +kernel⟩, fun xs ls e => by cases e⟩
theorem chunkI {m : Nat} {L : List (List Nat)} (hm : m ≤ 30) (hL : Lots m L) (Q : Out → Prop) (p10 : Option O) (c3 c19 c20 c21 c22 c23 c24 : Option O) (s : Src) (hs : s.cells.length ≤ 63) (a : List Nat)
    (k : ∀ (vals : List PyData) (s : Src), (∀ v ∈ vals, Val v) → s.cells.length ≤ 63 → Ex (x := evSs Ph lb_18 ⟨[none, some .src, some (.lst odds), c3, some (.d (.int (m : Int))), some (.d (.list (L.map tm))), some (.d (famD (m : Int) (fam L))), some (.d (.str (PyData.shown (.list (L.map tm))))), some (.d (famD (m : Int) (fam L))), some (.d (.tuple ((fam L).map tm))), p10, some (.d (tm a)), none, some (.d (.int (gsz (fam L)))), some (.d (.list (nums (szs (fam L))))), none, some (.d (topL (great (fam L)))), some (.d (.int (sgn (fam L)))), none, c19, c20, some (.lst vals), none, c23, c24], some s⟩) Q) : Ex (x := evSs Ph lb_17 ⟨[none, some .src, some (.lst odds), c3, some (.d (.int (m : Int))), some (.d (.list (L.map tm))), some (.d (famD (m : Int) (fam L))), some (.d (.str (PyData.shown (.list (L.map tm))))), some (.d (famD (m : Int) (fam L))), some (.d (.tuple ((fam L).map tm))), p10, some (.d (tm a)), none, some (.d (.int (gsz (fam L)))), some (.d (.list (nums (szs (fam L))))), none, some (.d (topL (great (fam L)))), some (.d (.int (sgn (fam L)))), none, c19, c20, c21, c22, c23, c24], some s⟩) Q := by
  have fl := lsts_fam (by omega) hL
  have fl4 : Lsts 400 ((fam L).map tm) := ⟨fl.1, by have := fl.2; omega⟩
  unfold lb_17
  infer_instance
  refine ⟨by decide, ?_⟩
  rw [rngD0]
  refine lc_pre (fun k : Nat => PyData.int (k : Int)) (fun done os st => ∃ (ys : List PyData) (s : Src), st = ⟨[none, some .src, some (.lst odds), c3, some (.d (.int (m : Int))), some (.d (.list (L.map tm))), some (.d (famD (m : Int) (fam L))), some (.d (.str (PyData.shown (.list (L.map tm))))), some (.d (famD (m : Int) (fam L))), some (.d (.tuple ((fam L).map tm))), p10, some (.d (tm a)), none, some (.d (.int (gsz (fam L)))), some (.d (.list (nums (szs (fam L))))), none, some (.d (topL (great (fam L)))), some (.d (.int (sgn (fam L)))), none, c19, c20, c21, none, c23, c24], some s⟩ ∧ os = ys.map .d ∧ (∀ y ∈ ys, Val y) ∧ ys.length = done.length ∧ s.cells.length ≤ 63) _ _ ⟨[], s, rfl, rfl, fun _ h => (List.not_mem_nil h).elim, rfl, hs⟩ ?_ ?_
  · rintro done j r os st e ⟨ys, s1, rfl, rfl, hy, hl, h63⟩
    infer_instance
    rw [q_calls near_at]
    infer_instance
    refine (near_spec (Φ := Ph22) (Φ1 := Ph12) rfl s1 (by omega) hL h63).mono fun q ⟨x, s2, e2, hx, h2⟩ => ?_
    subst e2
    infer_instance
    refine ⟨ys ++ [x], s2, rfl, ?_, ?_, ?_, h2⟩
    · rw [List.map_append]
      rfl
    · intro y hy2
      rcases List.mem_append.1 hy2 with hy2 | hy2
      · exact hy y hy2
      · rw [List.mem_singleton.1 hy2]; exact hx
    · rw [List.length_append, List.length_append, hl]
      rfl
  · rintro os st ⟨ys, s1, rfl, rfl, hy, hl, h63⟩
    infer_instance
    rw [datAll_ds]
    infer_instance
    have hl2 : ys.length = 14 := by rw [hl, List.length_range]; rfl
    have hv : ∀ (vals : List PyData), vals = [famD (m : Int) (fam L), PyData.list [PyData.int (m : Int), PyData.tuple ((fam L).map tm)], PyData.tuple ([PyData.int (m : Int), PyData.tuple ((fam L).map tm)] ++ [PyData.int 0])] ++ ys ++ odds → ∀ v ∈ vals, Val v := by
      intro vals e v hv
      subst e
      have two : ∀ x ∈ [PyData.int (m : Int), PyData.tuple ((fam L).map tm)], (∃ i : Int, x = .int i ∧ i.natAbs < 10 ^ 38) ∨ (∃ ls, x = .tuple ls ∧ Lsts 400 ls) := by
        intro x hx
        simp only [List.mem_cons, List.not_mem_nil, or_false] at hx
        rcases hx with rfl | rfl
        · exact .inl ⟨_, rfl, by omega⟩
        · exact .inr ⟨_, rfl, fl4⟩
      rcases List.mem_append.1 hv with hv | hv
      · rcases List.mem_append.1 hv with hv | hv
        · simp only [List.mem_cons, List.not_mem_nil, or_false] at hv
          rcases hv with rfl | rfl | rfl
          · exact fine_fam hm hL
          · exact (val_of two (by simp)).2
          · refine (val_of (fun x hx => ?_) (by simp)).1
            rcases List.mem_append.1 hx with hx | hx
            · exact two x hx
            · rw [List.mem_singleton.1 hx]; exact .inl ⟨0, rfl, by decide⟩
        · exact hy v hv
      · exact odds_val v hv
    have ho : odds.length = 15 := rfl
    refine ⟨by rw [sizeLine_eq]; omega, by rw [sizeLine_eq]; omega, ?_, ?_⟩
    · rw [List.length_append, hl2, ho, sizeLine_eq]
      show 3 + 14 + 15 ≤ _
      decide
    · exact k _ s1 (hv _ rfl) h63
end K82


set_option Elab.async false
set_option linter.all false
set_option maxRecDepth 100000
set_option maxHeartbeats 4000000
set_option pp.maxSteps 600
namespace K82
open PySem PySem.Spec PyProof.Rows L2 Vm

local macro_rules | `(tactic| infer_instance) => `(tactic| simp -dsimp only [q_chain, q_rng0, q_rng0T, q_enum, q_star, q_unp, q_dofK, datO_d, star_t, star_pt, star_l, listOf_l, seqL_lst, seqL_dl, q_int, q_bl, q_non, q_str, q_var, q_bor, q_mov, q_bin, q_neg, q_cmp, q_not, q_and, q_or, q_ife, q_tup, q_lst, q_idx, q_slc, q_rev, q_fn, q_mt, q_lcStep, q_lc, q_dnew, q_dof, q_sg, q_sl, q_sp, q_nil, q_cons, q_oeno, q_oeyes, q_ocno, q_ocyes, q_tv, q_tand, q_tor, q_tnot, q_seq, q_rng1, q_rng2, q_zip, q_zips, outK_nx, outK_ret, outK_brk, outK_cnt, q_snil, q_scons, q_set, q_par, q_ifs, q_forStep, q_forr, q_whl, q_ret, q_retn, q_brk, q_cnt, q_pass, q_sw, retP_ret, retS_ret, ex_some, ex_none, ex_iteN, ex_map, ex_bind,
  rdVar, rdBor, rdMov, frz_d, frz_pt, frz_lst, frz_mat, frz_dct, frz_fdct, frz_src, List.getElem?_cons_zero, List.getElem?_cons_succ, St.set, List.set_cons_zero, List.set_cons_succ, Option.map_some, Option.map_none, Option.bind_some, Option.bind_none, isSrc, sget_left, sget_mixed, sget_turn, sput_left, sput_mixed, sput_turn, vw_d, vw_pt, vw_lst, cmp_lt, cmp_gt, cmp_le, cmp_ge, cmp_eqI, cmp_neI, bin_add, bin_sub, tru_b, boolO, intO, put, puts, slot_d, slot_pt, slot_lst, slot_mat, slot_dct, slot_fdct, List.length_cons, List.length_nil, Nat.zero_le, sl_1, sl_2, sl_3, sl_4, sl_5, sl_6, sl_7, sl_8, sl_9, sl_10, sl_11, sl_12, sl_13, sl_14, sl_15, sl_16, sl_17, sl_18, sl_19, sl_20, sl_21, sl_22, sl_23, sl_24, sl_25, sl_26, sl_27, sl_28, sl_29, sl_30, sl_31, sl_32, sl_33, sl_34, sl_35, sl_36, sl_37, sl_38, sl_39, sl_40, Nat.reduceAdd, Nat.reduceLT, Nat.reduceLeDiff, cmp_eqNil, and_true, true_and, and_self, forall_const, true_implies, false_implies, reduceCtorEq, decide_eq_true_eq, decide_eq_false_iff_not, if_true, if_false, Int.reduceNeg, Option.some.injEq, pr_lenL, pr_lenH, pr_lenT, pr_lenD, pr_abs, pr_intI, pr_intB, pr_all, pr_any, pr_sum, pr_max, pr_min, pr_max2, pr_min2, pr_tupL', pr_tupT, pr_listL, pr_listT, pr_sortL, pr_sortD, cmp_isB, cmp_isnB, tru_i, cmp_neNil, add_L, add_T, slc_L, slc_T, rev_L, rev_T, seqP_pt, seqP_lst, seqP_dl, tupO_dat, tupO_frz, tupO_slot, tupO_free, tupO_vw, vwAll, datAll, dat_d, dat_pt, dat_lst, dat_mat, dat_dct0, implies_true, frzAll, vw, vw0, seqOf_l, seqOf_t, mtTy, List.all_cons, List.all_nil, free_d, free_pt, free_lst, free_dct, free_fdct, Bool.and_self, Bool.and_true, Bool.true_and, idx_list, idx_tup, at_c0, at_c1, clr, asg, asgs, List.length_map, Bool.not_eq_true', beq_self_eq_true, Bool.true_eq_false, Bool.not_eq_false', Bool.not_true, Bool.not_false, Bool.false_eq_true])

theorem chunkJ {m : Nat} {L : List (List Nat)} (hm : m ≤ 30) (hL : Lots m L) (Q : Out → Prop) (p10 : Option O) (c3 c19 c20 c21 c22 c23 c24 : Option O) (s : Src) (a : List Nat) (vals : List PyData) (hv : ∀ v ∈ vals, Val v)
    (k : ∀ c23 c24 : Option O, Ex (x := evSs Ph lb_19 ⟨[none, some .src, some (.lst odds), c3, some (.d (.int (m : Int))), some (.d (.list (L.map tm))), some (.d (famD (m : Int) (fam L))), some (.d (.str (PyData.shown (.list (L.map tm))))), some (.d (famD (m : Int) (fam L))), some (.d (.tuple ((fam L).map tm))), p10, some (.d (tm a)), none, some (.d (.int (gsz (fam L)))), some (.d (.list (nums (szs (fam L))))), none, some (.d (topL (great (fam L)))), some (.d (.int (sgn (fam L)))), none, c19, c20, some (.d (.list vals)), none, c23, c24], some s⟩) Q) : Ex (x := evSs Ph lb_18 ⟨[none, some .src, some (.lst odds), c3, some (.d (.int (m : Int))), some (.d (.list (L.map tm))), some (.d (famD (m : Int) (fam L))), some (.d (.str (PyData.shown (.list (L.map tm))))), some (.d (famD (m : Int) (fam L))), some (.d (.tuple ((fam L).map tm))), p10, some (.d (tm a)), none, some (.d (.int (gsz (fam L)))), some (.d (.list (nums (szs (fam L))))), none, some (.d (topL (great (fam L)))), some (.d (.int (sgn (fam L)))), none, c19, c20, some (.lst vals), none, c23, c24], some s⟩) Q := by
  unfold lb_18
  infer_instance
  refine for_pre0 (fun done st => ∃ c23 c24 : Option O, st = ⟨[none, some .src, some (.lst odds), c3, some (.d (.int (m : Int))), some (.d (.list (L.map tm))), some (.d (famD (m : Int) (fam L))), some (.d (.str (PyData.shown (.list (L.map tm))))), some (.d (famD (m : Int) (fam L))), some (.d (.tuple ((fam L).map tm))), p10, some (.d (tm a)), none, some (.d (.int (gsz (fam L)))), some (.d (.list (nums (szs (fam L))))), none, some (.d (topL (great (fam L)))), some (.d (.int (sgn (fam L)))), none, c19, c20, some (.d (.list vals)), none, c23, c24], some s⟩) vals _ ⟨_, _, rfl⟩ ?_ ?_
  · rintro done v r st e ⟨c23, c24, rfl⟩
    have hV := hv v (by rw [e]; exact List.mem_append_right _ List.mem_cons_self)
    infer_instance
    rw [hV.fine.repr (by omega) (by omega)]
    infer_instance
    rw [q_call isfam_at]
    infer_instance
    rw [ex_eq (isfam_val v hV)]
    infer_instance
    have fb : Fine (.bool (famB v)) 0 0 := (Pl.bool _).fine
    rw [fb.repr (by omega) (by omega)]
    infer_instance
    rw [q_call lisfam_at]
    infer_instance
    rw [ex_eq (lisfam_val v hV)]
    infer_instance
    rw [fb.repr (by omega) (by omega)]
    infer_instance
    rw [fb.ne]
    infer_instance
    rw [hV.fine.repr (by omega) (by omega)]
    infer_instance
    rw [hV.fine.ne]
    infer_instance
    exact ⟨_, _, rfl⟩
  · rintro st ⟨c23, c24, rfl⟩
    infer_instance
    exact k c23 c24
theorem mem_cut {xs : List PyData} {lo hi : Option Int} {x : PyData} (h : x ∈ Vm.cutD xs lo hi) : x ∈ xs := List.mem_of_mem_drop (List.mem_of_mem_take h)
theorem len_cut (xs : List PyData) (lo hi : Option Int) : (Vm.cutD xs lo hi).length ≤ xs.length := by
  unfold Vm.cutD
  rw [List.length_take, List.length_drop]
  omega
theorem chunkK {m : Nat} {L : List (List Nat)} (hm : m ≤ 30) (hL : Lots m L) (Q : Out → Prop) (p10 : Option O) (c3 c19 c20 c21 c22 c23 c24 : Option O) (s : Src) (a : List Nat) (ha5 : a.length ≤ 5) (ha : ∀ k ∈ a, k ≤ 30) (vals : List PyData)
    (k : ∀ c23 : Option O, Q (.nx ⟨[none, some .src, some (.lst odds), c3, some (.d (.int (m : Int))), some (.d (.list (L.map tm))), some (.d (famD (m : Int) (fam L))), some (.d (.str (PyData.shown (.list (L.map tm))))), some (.d (famD (m : Int) (fam L))), some (.d (.tuple ((fam L).map tm))), p10, some (.d (tm a)), none, some (.d (.int (gsz (fam L)))), some (.d (.list (nums (szs (fam L))))), none, some (.d (topL (great (fam L)))), some (.d (.int (sgn (fam L)))), none, c19, c20, some (.d (.list vals)), none, c23, c24], some s⟩)) : Ex (x := evSs Ph lb_19 ⟨[none, some .src, some (.lst odds), c3, some (.d (.int (m : Int))), some (.d (.list (L.map tm))), some (.d (famD (m : Int) (fam L))), some (.d (.str (PyData.shown (.list (L.map tm))))), some (.d (famD (m : Int) (fam L))), some (.d (.tuple ((fam L).map tm))), p10, some (.d (tm a)), none, some (.d (.int (gsz (fam L)))), some (.d (.list (nums (szs (fam L))))), none, some (.d (topL (great (fam L)))), some (.d (.int (sgn (fam L)))), none, c19, c20, some (.d (.list vals)), none, c23, c24], some s⟩) Q := by
  have fl := lsts_fam (by omega) hL
  unfold lb_19
  infer_instance
  have hcut := len_cut (nums a) (some (-1)) none
  have hcut2 := len_cut ((fam L).map tm) none (some 20)
  rw [nums_length] at hcut
  rw [List.length_map] at hcut2
  have hfl := hL.flen
  have ho : odds.length = 15 := rfl
  have up : ∀ y : PyData, Pl y 1 40 → Val y := fun y h => val_pl (d := 1) (h.mono (Nat.le_refl _) (by omega)) (by omega)
  have el : ∀ y ∈ nums a, Pl y 0 0 := fun y hy => by
    obtain ⟨n, hn, rfl⟩ := List.mem_map.1 hy
    have := ha n hn
    exact Pl.int (by omega)
  have tup : ∀ ys : List PyData, (∀ y ∈ ys, Pl y 0 0) → ys.length ≤ 40 → Val (.tuple ys) := fun ys h hl => up _ ((Pl.tup h hl).mono (by omega) (by omega))
  refine ⟨by rw [nums_length, sizeLine_eq]; omega, by rw [nums_length, sizeLine_eq]; omega, by rw [sizeLine_eq]; omega, ?_, ?_⟩
  · rw [List.length_append, ho, sizeLine_eq]
    show _ + 5 + 15 ≤ _
    omega
  have hv : ∀ (ws : List PyData), ws = Vm.cutD ((fam L).map tm) none (some 20) ++ [PyData.tuple (nums a ++ [PyData.int (m : Int)]), PyData.tuple (nums a).reverse, PyData.tuple (nums a ++ Vm.cutD (nums a) (some (-1)) none), PyData.tuple [PyData.bool true], PyData.list (nums a)] ++ odds → ∀ v ∈ ws, Val v := by
    intro ws e v hv
    subst e
    rcases List.mem_append.1 hv with hv | hv
    · rcases List.mem_append.1 hv with hv | hv
      · exact up _ (fl.1 _ (mem_cut hv))
      · simp only [List.mem_cons, List.not_mem_nil, or_false] at hv
        rcases hv with rfl | rfl | rfl | rfl | rfl
        · refine tup _ (fun y hy => ?_) (by rw [List.length_append, nums_length]; show _ + 1 ≤ _; omega)
          rcases List.mem_append.1 hy with hy | hy
          · exact el y hy
          · rw [List.mem_singleton.1 hy]; exact Pl.int (by omega)
        · exact tup _ (fun y hy => el y (List.mem_reverse.1 hy)) (by rw [List.length_reverse, nums_length]; omega)
        · refine tup _ (fun y hy => ?_) (by rw [List.length_append, nums_length]; omega)
          rcases List.mem_append.1 hy with hy | hy
          · exact el y hy
          · exact el y (mem_cut hy)
        · exact tup _ (fun y hy => by rw [List.mem_singleton.1 hy]; exact Pl.bool _) (by simp)
        · exact up _ ((Pl.list el (show (nums a).length ≤ 40 by rw [nums_length]; omega)).mono (by omega) (by omega))
    · exact odds_val v hv
  generalize hW : Vm.cutD ((fam L).map tm) none (some 20) ++ [PyData.tuple (nums a ++ [PyData.int (m : Int)]), PyData.tuple (nums a).reverse, PyData.tuple (nums a ++ Vm.cutD (nums a) (some (-1)) none), PyData.tuple [PyData.bool true], PyData.list (nums a)] ++ odds = W
  have hv := hv W hW.symm
  refine for_pre0 (fun done st => ∃ c23 : Option O, st = ⟨[none, some .src, some (.lst odds), c3, some (.d (.int (m : Int))), some (.d (.list (L.map tm))), some (.d (famD (m : Int) (fam L))), some (.d (.str (PyData.shown (.list (L.map tm))))), some (.d (famD (m : Int) (fam L))), some (.d (.tuple ((fam L).map tm))), p10, some (.d (tm a)), none, some (.d (.int (gsz (fam L)))), some (.d (.list (nums (szs (fam L))))), none, some (.d (topL (great (fam L)))), some (.d (.int (sgn (fam L)))), none, c19, c20, some (.d (.list vals)), none, c23, c24], some s⟩) W _ ⟨_, rfl⟩ ?_ ?_
  · rintro done v r st e ⟨c23, rfl⟩
    have hV := hv v (by rw [e]; exact List.mem_append_right _ List.mem_cons_self)
    infer_instance
    rw [q_call lot_at]
    infer_instance
    rw [ex_eq (lot_spec (Φ := Ph1) (Φ' := Ph0) rfl (m : Int) v hV.fine.ok (Nat.le_trans hV.fine.blk (by rw [sizeLine_eq]; omega)))]
    infer_instance
    have fb : Fine (.bool (isLot (m : Int) v)) 0 0 := (Pl.bool _).fine
    rw [fb.repr (by omega) (by omega)]
    infer_instance
    rw [q_call llot_at]
    infer_instance
    rw [ex_eq (lawlot_spec (Φ := Ph19) (Φ' := Ph15) rfl (m : Int) v hV.fine.ok (Nat.le_trans hV.fine.blk (by rw [sizeLine_eq]; omega)))]
    infer_instance
    rw [fb.repr (by omega) (by omega)]
    infer_instance
    rw [fb.ne]
    infer_instance
    exact ⟨_, rfl⟩
  · rintro st ⟨c23, rfl⟩
    infer_instance
    exact k c23
end K82


set_option Elab.async false
set_option linter.all false
set_option maxRecDepth 100000
set_option maxHeartbeats 4000000
set_option pp.maxSteps 600
namespace K82
open PySem PySem.Spec PyProof.Rows L2 Vm

local macro_rules | `(tactic| infer_instance) => `(tactic| simp -dsimp only [q_chain, q_rng0, q_rng0T, q_enum, q_star, q_unp, q_dofK, datO_d, star_t, star_pt, star_l, listOf_l, seqL_lst, seqL_dl, q_int, q_bl, q_non, q_str, q_var, q_bor, q_mov, q_bin, q_neg, q_cmp, q_not, q_and, q_or, q_ife, q_tup, q_lst, q_idx, q_slc, q_rev, q_fn, q_mt, q_lcStep, q_lc, q_dnew, q_dof, q_sg, q_sl, q_sp, q_nil, q_cons, q_oeno, q_oeyes, q_ocno, q_ocyes, q_tv, q_tand, q_tor, q_tnot, q_seq, q_rng1, q_rng2, q_zip, q_zips, outK_nx, outK_ret, outK_brk, outK_cnt, q_snil, q_scons, q_set, q_par, q_ifs, q_forStep, q_forr, q_whl, q_ret, q_retn, q_brk, q_cnt, q_pass, q_sw, retP_ret, retS_ret, ex_some, ex_none, ex_iteN, ex_map, ex_bind,
  rdVar, rdBor, rdMov, frz_d, frz_pt, frz_lst, frz_mat, frz_dct, frz_fdct, frz_src, List.getElem?_cons_zero, List.getElem?_cons_succ, St.set, List.set_cons_zero, List.set_cons_succ, Option.map_some, Option.map_none, Option.bind_some, Option.bind_none, isSrc, sget_left, sget_mixed, sget_turn, sput_left, sput_mixed, sput_turn, vw_d, vw_pt, vw_lst, cmp_lt, cmp_gt, cmp_le, cmp_ge, cmp_eqI, cmp_neI, bin_add, bin_sub, tru_b, boolO, intO, put, puts, slot_d, slot_pt, slot_lst, slot_mat, slot_dct, slot_fdct, List.length_cons, List.length_nil, Nat.zero_le, sl_1, sl_2, sl_3, sl_4, sl_5, sl_6, sl_7, sl_8, sl_9, sl_10, sl_11, sl_12, sl_13, sl_14, sl_15, sl_16, sl_17, sl_18, sl_19, sl_20, sl_21, sl_22, sl_23, sl_24, sl_25, sl_26, sl_27, sl_28, sl_29, sl_30, sl_31, sl_32, sl_33, sl_34, sl_35, sl_36, sl_37, sl_38, sl_39, sl_40, Nat.reduceAdd, Nat.reduceLT, Nat.reduceLeDiff, cmp_eqNil, and_true, true_and, and_self, forall_const, true_implies, false_implies, reduceCtorEq, decide_eq_true_eq, decide_eq_false_iff_not, if_true, if_false, Int.reduceNeg, Option.some.injEq, pr_lenL, pr_lenH, pr_lenT, pr_lenD, pr_abs, pr_intI, pr_intB, pr_all, pr_any, pr_sum, pr_max, pr_min, pr_max2, pr_min2, pr_tupL', pr_tupT, pr_listL, pr_listT, pr_sortL, pr_sortD, cmp_isB, cmp_isnB, tru_i, cmp_neNil, add_L, add_T, slc_L, slc_T, rev_L, rev_T, seqP_pt, seqP_lst, seqP_dl, tupO_dat, tupO_frz, tupO_slot, tupO_free, tupO_vw, vwAll, datAll, dat_d, dat_pt, dat_lst, dat_mat, dat_dct0, implies_true, frzAll, vw, vw0, seqOf_l, seqOf_t, mtTy, List.all_cons, List.all_nil, free_d, free_pt, free_lst, free_dct, free_fdct, Bool.and_self, Bool.and_true, Bool.true_and, idx_list, idx_tup, at_c0, at_c1, clr, asg, asgs, List.length_map, Bool.not_eq_true', beq_self_eq_true, Bool.true_eq_false, Bool.not_eq_false', Bool.not_true, Bool.not_false, Bool.false_eq_true])

theorem lap_law (Q : Out → Prop) (c3 c4 c5 c6 c7 c8 c9 c10 c11 c12 c13 c14 c15 c16 c17 c18 c19 c20 c21 c22 c23 c24 : Option O) (s : Src) (hs : s.cells.length ≤ 63)
    (k : ∀ (c3 c4 c5 c6 c7 c8 c9 c10 c11 c13 c14 c15 c16 c17 c18 c19 c20 c21 c22 c23 c24 : Option O) (s : Src), s.cells.length ≤ 63 → Q (.nx ⟨[none, some .src, some (.lst odds), c3, c4, c5, c6, c7, c8, c9, c10, c11, none, c13, c14, c15, c16, c17, c18, c19, c20, c21, c22, c23, c24], some s⟩)) : Ex (x := evSs Ph lb_0 ⟨[none, some .src, some (.lst odds), c3, c4, c5, c6, c7, c8, c9, c10, c11, none, c13, c14, c15, c16, c17, c18, c19, c20, c21, c22, c23, c24], some s⟩) Q := by
  refine chunkA Q c3 c4 c5 c6 c7 c8 c9 c10 c11 c12 c13 c14 c15 c16 c17 c18 c19 c20 c21 c22 c23 c24 s hs fun m L s hm hL hs => ?_
  refine chunkB hm hL Q c3 c9 c10 c11 c12 c13 c14 c15 c16 c17 c18 c19 c20 c21 c22 c23 c24 s ?_
  refine chunkC hm hL Q c3 none c13 c14 c15 c16 c17 c18 c19 c20 c21 c22 c23 c24 s ?_
  refine chunkD hm hL Q c3 c16 c17 c18 c19 c20 c21 c22 c23 c24 s fun p10 h10 => ?_
  refine chunkE hm hL Q p10 h10 c3 c17 c18 c19 c20 c21 c22 c23 c24 s ?_
  refine chunkF hm hL Q p10 c3 c17 c18 c19 c20 c21 c22 c23 c24 s ?_
  refine chunkG hm hL Q p10 c3 c19 c20 c21 c22 c23 c24 s fun c19 c20 => ?_
  refine chunkH hm hL Q p10 c3 c19 c20 c21 c22 c23 c24 s hs fun a s ha5 ha hs => ?_
  refine chunkI hm hL Q p10 c3 c19 c20 c21 c22 c23 c24 s hs a fun vals s hv hs => ?_
  refine chunkJ hm hL Q p10 c3 c19 c20 none none c23 c24 s a vals hv fun c23 c24 => ?_
  refine chunkK hm hL Q p10 c3 c19 c20 none none c23 c24 s a ha5 ha vals fun c23 => ?_
  exact k _ _ _ _ _ _ _ _ _ _ _ _ _ _ _ _ _ _ _ _ _ s hs
theorem cells_src (ns : List Int) : (srcOf ns).cells.length = ns.length := by
  unfold srcOf
  simp
theorem says_true : SaysTrue Ph n_law.length a_law := by
  intro ns hn hb
  have main : Ex (x := evSs Ph a_law (lawSt n_law.length ns)) fun o => ∃ s', o = .ret (.d (.bool true)) s' := by
    rw [a_law_eq]
    show Ex (x := evSs Ph _ ⟨[none, some .src, none, none, none, none, none, none, none, none, none, none, none, none, none, none, none, none, none, none, none, none, none, none, none], some (srcOf ns)⟩) _
    generalize hs0 : srcOf ns = s0
    have hs : s0.cells.length ≤ 63 := by rw [← hs0, cells_src]; exact hn
    infer_instance
    rw [show binSem .pow (.d (.int 10)) (.d (.int 30)) = some (.d (.int (10 ^ 30))) from rfl]
    infer_instance
    rw [show ([.none, .bool true, .bool false, .str (Str.ofString "x"), .tuple [], .tuple [.int 0], .list [.int 0], .dict [], .int 0, .int 1, .tuple [.int 0, .tuple []], .tuple [.int 0, .tuple [.tuple []]], .tuple [.int 1, .tuple [.tuple [.int 0]]], .tuple [.bool true, .tuple [.tuple []]], .int (10 ^ 30)] : List PyData) = odds from rfl]
    refine ⟨by decide, ?_⟩
    rw [rngD0]
    refine for_pre (fun k : Nat => PyData.int (k : Int)) (fun done st => ∃ (c3 c4 c5 c6 c7 c8 c9 c10 c11 c13 c14 c15 c16 c17 c18 c19 c20 c21 c22 c23 c24 : Option O) (s : Src), s.cells.length ≤ 63 ∧ st = ⟨[none, some .src, some (.lst odds), c3, c4, c5, c6, c7, c8, c9, c10, c11, none, c13, c14, c15, c16, c17, c18, c19, c20, c21, c22, c23, c24], some s⟩) _ _ ⟨none, none, none, none, none, none, none, none, none, none, none, none, none, none, none, none, none, none, none, none, none, s0, hs, rfl⟩ ?_ ?_
    · rintro done j r st e ⟨c3, c4, c5, c6, c7, c8, c9, c10, c11, c13, c14, c15, c16, c17, c18, c19, c20, c21, c22, c23, c24, s, hs, rfl⟩
      infer_instance
      refine lap_law _ (some (.d (.int (j : Int)))) c4 c5 c6 c7 c8 c9 c10 c11 none c13 c14 c15 c16 c17 c18 c19 c20 c21 c22 c23 c24 s hs fun c3 c4 c5 c6 c7 c8 c9 c10 c11 c13 c14 c15 c16 c17 c18 c19 c20 c21 c22 c23 c24 s hs => ?_
      exact ⟨_, _, _, _, _, _, _, _, _, _, _, _, _, _, _, _, _, _, _, _, _, s, hs, rfl⟩
    · rintro st ⟨c3, c4, c5, c6, c7, c8, c9, c10, c11, c13, c14, c15, c16, c17, c18, c19, c20, c21, c22, c23, c24, s, hs, rfl⟩
      infer_instance
      unfold lend
      infer_instance
      have hE : Fam [] := ⟨by decide, fun _ h => (List.not_mem_nil h).elim⟩
      rw [q_call top_at]
      infer_instance
      rw [ex_eq (show runP Ph7 3 a_top_size [.d (.tuple [.int 3, .tuple []])] = some (.d .none) from top_spec (Φ := Ph7) (Φ1 := Ph6) (Φ2 := Ph2) rfl rfl 3 hE)]
      infer_instance
      rw [show cmpSem .is (.d .none) (.d .none) = some true from rfl]
      infer_instance
      rw [q_call gsz_at]
      infer_instance
      rw [ex_eq (show runP Ph9 2 a_greatest_size [.d (.tuple [.int 3, .tuple []])] = some (.d (.int (-1))) from gsz_spec (Φ := Ph9) 3 hE)]
      infer_instance
      rw [q_call fam_at]
      infer_instance
      rw [ex_eq (show runP Ph4 5 a_family_of [.d (.int 2), .d (.list [])] = some (.d (.tuple [.int 2, .tuple []])) from by
        rw [family_spec (Φ := Ph4) (Φ' := Ph3) rfl 2 [] (.d (.list [])) rfl rfl rfl (by decide) (fun _ h => (List.not_mem_nil h).elim)]
        unfold fam allParts srtL
        simp only [List.foldl_nil, List.mergeSort_nil]
        rfl)]
      infer_instance
      rw [show cmpSem .eq (.d (.tuple [.int 2, .tuple []])) (.d (.tuple [.int 2, .tuple []])) = some true by decide +kernel]
      infer_instance
      first
      | exact ⟨_, rfl⟩
      | exact ⟨⟨_, rfl⟩, fun h => (h trivial).elim⟩
      | (refine ⟨fun _ => ⟨_, rfl⟩, fun h => (h trivial).elim⟩)
  obtain ⟨o, e, s', rfl⟩ := main
  exact ⟨s', e⟩
end K82


namespace K82
open PySem PySem.Spec PyProof.Rows L2 Vm
theorem b_is_thing : BindOk "is_thing" (top 1) ["value", "many"] := fun _ _ _ _ _ _ us hl => match us, hl with
  | [_, _], _ => rfl
theorem b_is_thing_lot_of : BindOk "is_thing_lot_of" (top 2) ["many", "value"] := fun _ _ _ _ _ _ us hl => match us, hl with
  | [_, _], _ => rfl
theorem b_sides_of : BindOk "sides_of" (top 3) ["lot"] := fun _ _ _ _ _ _ us hl => match us, hl with
  | [_], _ => rfl
theorem b_parts_of : BindOk "parts_of" (top 4) ["lot"] := fun _ _ _ _ _ _ us hl => match us, hl with
  | [_], _ => rfl
theorem b_family_of : BindOk "family_of" (top 5) ["many", "lots"] := fun _ _ _ _ _ _ us hl => match us, hl with
  | [_, _], _ => rfl
theorem b_is_family : BindOk "is_family" (top 6) ["value"] := fun _ _ _ _ _ _ us hl => match us, hl with
  | [_], _ => rfl
theorem b_greatest_lots : BindOk "greatest_lots" (top 7) ["family"] := fun _ _ _ _ _ _ us hl => match us, hl with
  | [_], _ => rfl
theorem b_top_size : BindOk "top_size" (top 8) ["family"] := fun _ _ _ _ _ _ us hl => match us, hl with
  | [_], _ => rfl
theorem b_lots_of_size : BindOk "lots_of_size" (top 9) ["family", "size"] := fun _ _ _ _ _ _ us hl => match us, hl with
  | [_, _], _ => rfl
theorem b_greatest_size : BindOk "greatest_size" (top 10) ["family"] := fun _ _ _ _ _ _ us hl => match us, hl with
  | [_], _ => rfl
theorem b_sizes_of : BindOk "sizes_of" (top 11) ["family"] := fun _ _ _ _ _ _ us hl => match us, hl with
  | [_], _ => rfl
theorem b_family_sign : BindOk "family_sign" (top 12) ["family"] := fun _ _ _ _ _ _ us hl => match us, hl with
  | [_], _ => rfl
theorem b_law_pick : BindOk "_law_pick" (top 15) ["source", "many"] := fun _ _ _ _ _ _ us hl => match us, hl with
  | [_, _], _ => rfl
theorem b_law_of : BindOk "_law_of" (top 16) ["source", "some"] := fun _ _ _ _ _ _ us hl => match us, hl with
  | [_, _], _ => rfl
theorem b_law_mixed : BindOk "_law_mixed" (top 17) ["source", "things"] := fun _ _ _ _ _ _ us hl => match us, hl with
  | [_, _], _ => rfl
theorem b_law_is_int : BindOk "_law_is_int" (top 18) ["value"] := fun _ _ _ _ _ _ us hl => match us, hl with
  | [_], _ => rfl
theorem b_law_parts : BindOk "_law_parts" (top 19) ["lot"] := fun _ _ _ _ _ _ us hl => match us, hl with
  | [_], _ => rfl
theorem b_law_family : BindOk "_law_family" (top 20) ["many", "lots"] := fun _ _ _ _ _ _ us hl => match us, hl with
  | [_, _], _ => rfl
theorem b_law_sides : BindOk "_law_sides" (top 21) ["lot"] := fun _ _ _ _ _ _ us hl => match us, hl with
  | [_], _ => rfl
theorem b_law_is_lot : BindOk "_law_is_lot" (top 22) ["many", "value"] := fun _ _ _ _ _ _ us hl => match us, hl with
  | [_, _], _ => rfl
theorem b_law_is_family : BindOk "_law_is_family" (top 23) ["value"] := fun _ _ _ _ _ _ us hl => match us, hl with
  | [_], _ => rfl
theorem b_law_drawn_lots : BindOk "_law_drawn_lots" (top 24) ["source", "many"] := fun _ _ _ _ _ _ us hl => match us, hl with
  | [_, _], _ => rfl
theorem b_law_near : BindOk "_law_near" (top 25) ["source", "family"] := fun _ _ _ _ _ _ us hl => match us, hl with
  | [_, _], _ => rfl
theorem b_law_in : BindOk "_law_in" (top 26) ["one", "other"] := fun _ _ _ _ _ _ us hl => match us, hl with
  | [_, _], _ => rfl
theorem b_law : BindOk "law" (top 27) ["script"] := fun _ _ _ _ _ _ us hl => match us, hl with
  | [_], _ => rfl
theorem b_src : BindOk "_law_source" (top 14) ["script"] := fun _ _ _ _ _ _ us hl => match us, hl with
  | [_], _ => rfl
theorem chain {P : Program} {w : World} {K : PySem.W.Frag} {mg : Str → Option Value} {base h : Heap} (KX : K.In h) (G : h.Ns mainGlobals mg) (hz : ∀ x ∈ bNames, mg x = none) (d_is_thing : DefAt K "is_thing" (top 1)) (d_is_thing_lot_of : DefAt K "is_thing_lot_of" (top 2)) (d_sides_of : DefAt K "sides_of" (top 3)) (d_parts_of : DefAt K "parts_of" (top 4)) (d_family_of : DefAt K "family_of" (top 5)) (d_is_family : DefAt K "is_family" (top 6)) (d_greatest_lots : DefAt K "greatest_lots" (top 7)) (d_top_size : DefAt K "top_size" (top 8)) (d_lots_of_size : DefAt K "lots_of_size" (top 9)) (d_greatest_size : DefAt K "greatest_size" (top 10)) (d_sizes_of : DefAt K "sizes_of" (top 11)) (d_family_sign : DefAt K "family_sign" (top 12)) (d_law_pick : DefAt K "_law_pick" (top 15)) (d_law_of : DefAt K "_law_of" (top 16)) (d_law_mixed : DefAt K "_law_mixed" (top 17)) (d_law_is_int : DefAt K "_law_is_int" (top 18)) (d_law_parts : DefAt K "_law_parts" (top 19)) (d_law_family : DefAt K "_law_family" (top 20)) (d_law_sides : DefAt K "_law_sides" (top 21)) (d_law_is_lot : DefAt K "_law_is_lot" (top 22)) (d_law_is_family : DefAt K "_law_is_family" (top 23)) (d_law_drawn_lots : DefAt K "_law_drawn_lots" (top 24)) (d_law_near : DefAt K "_law_near" (top 25)) (d_law_in : DefAt K "_law_in" (top 26)) (d_src : DefAt K "_law_source" (top 14)) :
    Base P w K mg base Ph 24 ∧ ∃ ks, ks ≤ 24 ∧ C8.Cal P w K mg base ks (Str.ofString "_law_source") (spSrc K) [] := by
  have B0 : Base P w K mg base Ph0 0 := base0 hz
  have B1 := B0.stepP d_is_thing KX G b_is_thing s_is_thing_ok c_is_thing_ok
  have B2 := B1.stepP d_is_thing_lot_of KX G b_is_thing_lot_of s_is_thing_lot_of_ok c_is_thing_lot_of_ok
  have B3 := B2.stepP d_sides_of KX G b_sides_of s_sides_of_ok c_sides_of_ok
  have B4 := B3.stepP d_parts_of KX G b_parts_of s_parts_of_ok c_parts_of_ok
  have B5 := B4.stepP d_family_of KX G b_family_of s_family_of_ok c_family_of_ok
  have B6 := B5.stepP d_is_family KX G b_is_family s_is_family_ok c_is_family_ok
  have B7 := B6.stepP d_greatest_lots KX G b_greatest_lots s_greatest_lots_ok c_greatest_lots_ok
  have B8 := B7.stepP d_top_size KX G b_top_size s_top_size_ok c_top_size_ok
  have B9 := B8.stepP d_lots_of_size KX G b_lots_of_size s_lots_of_size_ok c_lots_of_size_ok
  have B10 := B9.stepP d_greatest_size KX G b_greatest_size s_greatest_size_ok c_greatest_size_ok
  have B11 := B10.stepP d_sizes_of KX G b_sizes_of s_sizes_of_ok c_sizes_of_ok
  have B12 := B11.stepP d_family_sign KX G b_family_sign s_family_sign_ok c_family_sign_ok
  have B13 := B12.stepS d_law_pick KX G b_law_pick s_law_pick_ok c_law_pick_ok
  have B14 := B13.stepS d_law_of KX G b_law_of s_law_of_ok c_law_of_ok
  have B15 := B14.stepS d_law_mixed KX G b_law_mixed s_law_mixed_ok c_law_mixed_ok
  have B16 := B15.stepP d_law_is_int KX G b_law_is_int s_law_is_int_ok c_law_is_int_ok
  have B17 := B16.stepP d_law_parts KX G b_law_parts s_law_parts_ok c_law_parts_ok
  have B18 := B17.stepP d_law_family KX G b_law_family s_law_family_ok c_law_family_ok
  have B19 := B18.stepP d_law_sides KX G b_law_sides s_law_sides_ok c_law_sides_ok
  have B20 := B19.stepP d_law_is_lot KX G b_law_is_lot s_law_is_lot_ok c_law_is_lot_ok
  have B21 := B20.stepP d_law_is_family KX G b_law_is_family s_law_is_family_ok c_law_is_family_ok
  have B22 := B21.stepS d_law_drawn_lots KX G b_law_drawn_lots s_law_drawn_lots_ok c_law_drawn_lots_ok
  have B23 := B22.stepS d_law_near KX G b_law_near s_law_near_ok c_law_near_ok
  have B24 := B23.stepP d_law_in KX G b_law_in s_law_in_ok c_law_in_ok
  exact ⟨B24, 1, by decide, cal_src B0 d_src KX G b_src s_src_ok rfl rfl c_src_ok⟩
theorem all_mk {l : PySem.W.OpenLaw} {w : World} {K : PySem.W.Frag} {h : Heap} {mg : Str → Option Value} {fa : Addr} (KX : K.In h) (G : h.Ns mainGlobals mg) (hfa : mg "law" = some (.ref fa)) (d_is_thing : DefAt K "is_thing" (top 1)) (d_is_thing_lot_of : DefAt K "is_thing_lot_of" (top 2)) (d_sides_of : DefAt K "sides_of" (top 3)) (d_parts_of : DefAt K "parts_of" (top 4)) (d_family_of : DefAt K "family_of" (top 5)) (d_is_family : DefAt K "is_family" (top 6)) (d_greatest_lots : DefAt K "greatest_lots" (top 7)) (d_top_size : DefAt K "top_size" (top 8)) (d_lots_of_size : DefAt K "lots_of_size" (top 9)) (d_greatest_size : DefAt K "greatest_size" (top 10)) (d_sizes_of : DefAt K "sizes_of" (top 11)) (d_family_sign : DefAt K "family_sign" (top 12)) (d_law_pick : DefAt K "_law_pick" (top 15)) (d_law_of : DefAt K "_law_of" (top 16)) (d_law_mixed : DefAt K "_law_mixed" (top 17)) (d_law_is_int : DefAt K "_law_is_int" (top 18)) (d_law_parts : DefAt K "_law_parts" (top 19)) (d_law_family : DefAt K "_law_family" (top 20)) (d_law_sides : DefAt K "_law_sides" (top 21)) (d_law_is_lot : DefAt K "_law_is_lot" (top 22)) (d_law_is_family : DefAt K "_law_is_family" (top 23)) (d_law_drawn_lots : DefAt K "_law_drawn_lots" (top 24)) (d_law_near : DefAt K "_law_near" (top 25)) (d_law_in : DefAt K "_law_in" (top 26)) (d_src : DefAt K "_law_source" (top 14)) (d_law : DefAt K "law" (top 27)) (z_len : PySem.W.nsIn K mainGlobals "len" = some none) (z_abs : PySem.W.nsIn K mainGlobals "abs" = some none) (z_int : PySem.W.nsIn K mainGlobals "int" = some none) (z_bool : PySem.W.nsIn K mainGlobals "bool" = some none) (z_str : PySem.W.nsIn K mainGlobals "str" = some none) (z_list : PySem.W.nsIn K mainGlobals "list" = some none) (z_tuple : PySem.W.nsIn K mainGlobals "tuple" = some none) (z_dict : PySem.W.nsIn K mainGlobals "dict" = some none) (z_all : PySem.W.nsIn K mainGlobals "all" = some none) (z_any : PySem.W.nsIn K mainGlobals "any" = some none) (z_sum : PySem.W.nsIn K mainGlobals "sum" = some none) (z_max : PySem.W.nsIn K mainGlobals "max" = some none) (z_min : PySem.W.nsIn K mainGlobals "min" = some none) (z_sorted : PySem.W.nsIn K mainGlobals "sorted" = some none) (z_repr : PySem.W.nsIn K mainGlobals "repr" = some none) (z_isinstance : PySem.W.nsIn K mainGlobals "isinstance" = some none) (z_range : PySem.W.nsIn K mainGlobals "range" = some none) (z_enumerate : PySem.W.nsIn K mainGlobals "enumerate" = some none) (z_zip : PySem.W.nsIn K mainGlobals "zip" = some none) :
    ∃ fd : FuncData, (∀ (s : Shared) (u : Value), BindsTo s fd ⟨[u], []⟩ [("script", u)]) ∧ ∀ base : Heap, K.In base → base.Ns mainGlobals mg → LawAt l.prog w K mg base fa fd "script" 63 := by
  have hz : ∀ x ∈ bNames, mg x = none := by
    intro x hx
    simp only [bNames, List.mem_cons, List.not_mem_nil, or_false] at hx
    rcases hx with rfl | rfl | rfl | rfl | rfl | rfl | rfl | rfl | rfl | rfl | rfl | rfl | rfl | rfl | rfl | rfl | rfl | rfl | rfl
    · exact PySem.W.mg_none_of KX G z_len
    · exact PySem.W.mg_none_of KX G z_abs
    · exact PySem.W.mg_none_of KX G z_int
    · exact PySem.W.mg_none_of KX G z_bool
    · exact PySem.W.mg_none_of KX G z_str
    · exact PySem.W.mg_none_of KX G z_list
    · exact PySem.W.mg_none_of KX G z_tuple
    · exact PySem.W.mg_none_of KX G z_dict
    · exact PySem.W.mg_none_of KX G z_all
    · exact PySem.W.mg_none_of KX G z_any
    · exact PySem.W.mg_none_of KX G z_sum
    · exact PySem.W.mg_none_of KX G z_max
    · exact PySem.W.mg_none_of KX G z_min
    · exact PySem.W.mg_none_of KX G z_sorted
    · exact PySem.W.mg_none_of KX G z_repr
    · exact PySem.W.mg_none_of KX G z_isinstance
    · exact PySem.W.mg_none_of KX G z_range
    · exact PySem.W.mg_none_of KX G z_enumerate
    · exact PySem.W.mg_none_of KX G z_zip
  obtain ⟨fd, hb, hF⟩ := law_at (P := l.prog) (w := w) (Φ := Ph) (j := 24) (N := n_law) (a := a_law) (y := "script") d_law KX G b_law s_law_ok c_law_ok says_true (by decide) ⟨rfl, by decide +kernel, by decide +kernel⟩ hfa
  refine ⟨fd, hb, fun base hK hG => ?_⟩
  obtain ⟨B, S⟩ := chain (P := l.prog) (w := w) (base := base) KX G hz d_is_thing d_is_thing_lot_of d_sides_of d_parts_of d_family_of d_is_family d_greatest_lots d_top_size d_lots_of_size d_greatest_size d_sizes_of d_family_sign d_law_pick d_law_of d_law_mixed d_law_is_int d_law_parts d_law_family d_law_sides d_law_is_lot d_law_is_family d_law_drawn_lots d_law_near d_law_in d_src
  exact hF base B S
end K82
open PySem PySem.W PyProof.Rows in
set_option maxRecDepth 100000 in
set_option maxHeartbeats 0 in
theorem PySem.Challenge.cw_topplingsteps_k82_whole_families_and_wha_holds : PySem.Challenge.rw_topplingsteps_k82_whole_families_and_wha.Holds := by
  w_on; o_law; k_head; (case hw => w_witness2)
  k_fill
  refine Vm.walk (l := PySem.Challenge.rw_topplingsteps_k82_whole_families_and_wha) rfl rfl (fun w h Y => PySem.W.kIn_of Y) ?F
  case F =>
    intro w mg fa h KX G hmg
    refine' K82.all_mk KX G hmg ?d_is_thing ?d_is_thing_lot_of ?d_sides_of ?d_parts_of ?d_family_of ?d_is_family ?d_greatest_lots ?d_top_size ?d_lots_of_size ?d_greatest_size ?d_sizes_of ?d_family_sign ?d_law_pick ?d_law_of ?d_law_mixed ?d_law_is_int ?d_law_parts ?d_law_family ?d_law_sides ?d_law_is_lot ?d_law_is_family ?d_law_drawn_lots ?d_law_near ?d_law_in ?d_src ?d_law ?z_len ?z_abs ?z_int ?z_bool ?z_str ?z_list ?z_tuple ?z_dict ?z_all ?z_any ?z_sum ?z_max ?z_min ?z_sorted ?z_repr ?z_isinstance ?z_range ?z_enumerate ?z_zip
    (case d_is_thing => refine' Vm.defAt_mk ?a ?l ?c ?k; (case a => k_is); (case l => k_is); (case c => k_is); (case k => k_is))
    (case d_is_thing_lot_of => refine' Vm.defAt_mk ?a ?l ?c ?k; (case a => k_is); (case l => k_is); (case c => k_is); (case k => k_is))
    (case d_sides_of => refine' Vm.defAt_mk ?a ?l ?c ?k; (case a => k_is); (case l => k_is); (case c => k_is); (case k => k_is))
    (case d_parts_of => refine' Vm.defAt_mk ?a ?l ?c ?k; (case a => k_is); (case l => k_is); (case c => k_is); (case k => k_is))
    (case d_family_of => refine' Vm.defAt_mk ?a ?l ?c ?k; (case a => k_is); (case l => k_is); (case c => k_is); (case k => k_is))
    (case d_is_family => refine' Vm.defAt_mk ?a ?l ?c ?k; (case a => k_is); (case l => k_is); (case c => k_is); (case k => k_is))
    (case d_greatest_lots => refine' Vm.defAt_mk ?a ?l ?c ?k; (case a => k_is); (case l => k_is); (case c => k_is); (case k => k_is))
    (case d_top_size => refine' Vm.defAt_mk ?a ?l ?c ?k; (case a => k_is); (case l => k_is); (case c => k_is); (case k => k_is))
    (case d_lots_of_size => refine' Vm.defAt_mk ?a ?l ?c ?k; (case a => k_is); (case l => k_is); (case c => k_is); (case k => k_is))
    (case d_greatest_size => refine' Vm.defAt_mk ?a ?l ?c ?k; (case a => k_is); (case l => k_is); (case c => k_is); (case k => k_is))
    (case d_sizes_of => refine' Vm.defAt_mk ?a ?l ?c ?k; (case a => k_is); (case l => k_is); (case c => k_is); (case k => k_is))
    (case d_family_sign => refine' Vm.defAt_mk ?a ?l ?c ?k; (case a => k_is); (case l => k_is); (case c => k_is); (case k => k_is))
    (case d_law_pick => refine' Vm.defAt_mk ?a ?l ?c ?k; (case a => k_is); (case l => k_is); (case c => k_is); (case k => k_is))
    (case d_law_of => refine' Vm.defAt_mk ?a ?l ?c ?k; (case a => k_is); (case l => k_is); (case c => k_is); (case k => k_is))
    (case d_law_mixed => refine' Vm.defAt_mk ?a ?l ?c ?k; (case a => k_is); (case l => k_is); (case c => k_is); (case k => k_is))
    (case d_law_is_int => refine' Vm.defAt_mk ?a ?l ?c ?k; (case a => k_is); (case l => k_is); (case c => k_is); (case k => k_is))
    (case d_law_parts => refine' Vm.defAt_mk ?a ?l ?c ?k; (case a => k_is); (case l => k_is); (case c => k_is); (case k => k_is))
    (case d_law_family => refine' Vm.defAt_mk ?a ?l ?c ?k; (case a => k_is); (case l => k_is); (case c => k_is); (case k => k_is))
    (case d_law_sides => refine' Vm.defAt_mk ?a ?l ?c ?k; (case a => k_is); (case l => k_is); (case c => k_is); (case k => k_is))
    (case d_law_is_lot => refine' Vm.defAt_mk ?a ?l ?c ?k; (case a => k_is); (case l => k_is); (case c => k_is); (case k => k_is))
    (case d_law_is_family => refine' Vm.defAt_mk ?a ?l ?c ?k; (case a => k_is); (case l => k_is); (case c => k_is); (case k => k_is))
    (case d_law_drawn_lots => refine' Vm.defAt_mk ?a ?l ?c ?k; (case a => k_is); (case l => k_is); (case c => k_is); (case k => k_is))
    (case d_law_near => refine' Vm.defAt_mk ?a ?l ?c ?k; (case a => k_is); (case l => k_is); (case c => k_is); (case k => k_is))
    (case d_law_in => refine' Vm.defAt_mk ?a ?l ?c ?k; (case a => k_is); (case l => k_is); (case c => k_is); (case k => k_is))
    (case d_src => refine' Vm.defAt_mk ?a ?l ?c ?k; (case a => k_is); (case l => k_is); (case c => k_is); (case k => k_is))
    (case d_law => refine' Vm.defAt_mk ?a ?l ?c ?k; (case a => k_is); (case l => k_is); (case c => k_is); (case k => k_is))
    (case z_len => k_is)
    (case z_abs => k_is)
    (case z_int => k_is)
    (case z_bool => k_is)
    (case z_str => k_is)
    (case z_list => k_is)
    (case z_tuple => k_is)
    (case z_dict => k_is)
    (case z_all => k_is)
    (case z_any => k_is)
    (case z_sum => k_is)
    (case z_max => k_is)
    (case z_min => k_is)
    (case z_sorted => k_is)
    (case z_repr => k_is)
    (case z_isinstance => k_is)
    (case z_range => k_is)
    (case z_enumerate => k_is)
    (case z_zip => k_is)

