import PyProof.Rows.All
import Wide.All
import OpenK.AllK
import Wide.FinOn
import HandS.ForMost
import HandS.IsInst
import KE.DataCmp
import KE.SortData
import HandS.TupAny
import HandS.Wide
import HandS.WideBits
import PyProof.NeKinds
import HandS.Deep
import HandS.Style
import HandS.TupLen
import KE.KDictSum
import KE.KDictKeyed
import HandS.Conv
import PyProof.CallFns
import KE.KDictPairs
import HandS.Flow
import HandS.Codes
import HandS.Zip
import PyProof.Rows.CallKwBuiltin
import HandS.Small
import HandS.EndBits
import PyProof.ReprBulk
import PySem.Challenge.RW_topplingsteps_k85_whole_terms_of_one_to
set_option Elab.async false
set_option linter.all false
set_option maxRecDepth 100000
/-! Vm, part 1: plain data, what a slot owns, the relation between the evaluator's state and the heap. -/
namespace Vm
open PySem PySem.Spec PyProof.Rows L2

/-! ### keys of dicts -/
inductive DK where
  | k (x : Key)
  | t (xs : List Key)
  deriving DecidableEq
def keyDat : Key → PyData
  | .inl i => .int i
  | .inr s => .str s
def toKey : PyData → Option Key
  | .int i => some (.inl i)
  | .str s => some (.inr s)
  | _ => none
def toKeys : List PyData → Option (List Key)
  | [] => some []
  | x :: xs => match toKey x, toKeys xs with
    | some k, some ks => some (k :: ks)
    | _, _ => none
def toDK : PyData → Option DK
  | .int i => some (.k (.inl i))
  | .str s => some (.k (.inr s))
  | .tuple xs => if xs.isEmpty then none else (toKeys xs).map .t
  | _ => none
/-- a tuple of these is no key -/
def noKey (xs : List PyData) : Bool := xs.isEmpty || (toKeys xs).isNone
def DK.dat : DK → PyData
  | .k x => keyDat x
  | .t xs => .tuple (xs.map keyDat)

/-! ### data in a heap -/
mutual
inductive Den (K : PySem.W.Frag) (F : Hp) : V → PyData → Prop
  | non : Den K F .non .none
  | bl (b : Bool) : Den K F (.bl b) (.bool b)
  | int (i : Int) : Den K F (.int i) (.int i)
  | str (x : Str) : Den K F (.str x) (.str x)
  | lst {a : Addr} {vs : List V} {ds : List PyData} : F a = some (.lst vs) → DenAll K F vs ds → Den K F (.ref a) (.list ds)
  | tup {a : Addr} {vs : List V} {ds : List PyData} : F a = some (.tup vs) → DenAll K F vs ds → Den K F (.ref a) (.tuple ds)
  | ftup {a : Addr} {vs : List V} {ds : List PyData} {o : Obj} : F a = some (.frz o (.tup vs)) → o.dict = none → noKey ds = true → DenAll K F vs ds → Den K F (.ref a) (.tuple ds)
  | dk0 {a : Addr} : F a = some (.dK []) → Den K F (.ref a) (.dict [])
inductive DenAll (K : PySem.W.Frag) (F : Hp) : List V → List PyData → Prop
  | nil : DenAll K F [] []
  | cons {v : V} {vs : List V} {d : PyData} {ds : List PyData} : Den K F v d → DenAll K F vs ds → DenAll K F (v :: vs) (d :: ds)
end

theorem sqT_mono {K : PySem.W.Frag} {F F' : Hp} {a : Addr} {xs : List V} (e : Same F F') (h : SqT K F a xs) : SqT K F' a xs := by
  rcases h with (h | ⟨o, h⟩) | h
  · exact .inl (.inl (e _ _ h))
  · exact .inl (.inr ⟨o, e _ _ h⟩)
  · exact .inr h
mutual
theorem Den.mono {K : PySem.W.Frag} {F F' : Hp} (e : Same F F') : ∀ {v : V} {d : PyData}, Den K F v d → Den K F' v d
  | _, _, .non => .non
  | _, _, .bl b => .bl b
  | _, _, .int i => .int i
  | _, _, .str x => .str x
  | _, _, .lst h hs => .lst (e _ _ h) (DenAll.mono e hs)
  | _, _, .tup h hs => .tup (e _ _ h) (DenAll.mono e hs)
  | _, _, .ftup h d n hs => .ftup (e _ _ h) d n (DenAll.mono e hs)
  | _, _, .dk0 h => .dk0 (e _ _ h)
theorem DenAll.mono {K : PySem.W.Frag} {F F' : Hp} (e : Same F F') : ∀ {vs : List V} {ds : List PyData}, DenAll K F vs ds → DenAll K F' vs ds
  | _, _, .nil => .nil
  | _, _, .cons h hs => .cons (Den.mono e h) (DenAll.mono e hs)
end
theorem DenAll.length {K : PySem.W.Frag} {F : Hp} : ∀ {vs : List V} {ds : List PyData}, DenAll K F vs ds → vs.length = ds.length
  | _, _, .nil => rfl
  | _, _, .cons _ hs => congrArg Nat.succ (DenAll.length hs)
theorem DenAll.append {K : PySem.W.Frag} {F : Hp} : ∀ {vs ws : List V} {ds es : List PyData}, DenAll K F vs ds → DenAll K F ws es → DenAll K F (vs ++ ws) (ds ++ es)
  | _, _, _, _, .nil, h => h
  | _, _, _, _, .cons h hs, g => .cons h (DenAll.append hs g)
theorem DenAll.get {K : PySem.W.Frag} {F : Hp} : ∀ {vs : List V} {ds : List PyData} {i : Nat} {d : PyData}, DenAll K F vs ds → ds[i]? = some d → ∃ v, vs[i]? = some v ∧ Den K F v d
  | _, _, _, _, .nil, e => by simp at e
  | _, _, 0, _, .cons h _, e => ⟨_, rfl, by simp at e; exact e ▸ h⟩
  | _, _, i + 1, _, .cons _ hs, e => by
    obtain ⟨v, h1, h2⟩ := DenAll.get (i := i) hs (by simpa using e)
    exact ⟨v, by simpa using h1, h2⟩
theorem DenAll.getV {K : PySem.W.Frag} {F : Hp} : ∀ {vs : List V} {ds : List PyData} {i : Nat} {v : V}, DenAll K F vs ds → vs[i]? = some v → ∃ d, ds[i]? = some d ∧ Den K F v d
  | _, _, _, _, .nil, e => by simp at e
  | _, _, 0, _, .cons h _, e => ⟨_, rfl, by simp at e; exact e ▸ h⟩
  | _, _, i + 1, _, .cons _ hs, e => by
    obtain ⟨v, h1, h2⟩ := DenAll.getV (i := i) hs (by simpa using e)
    exact ⟨v, by simpa using h1, h2⟩
theorem DenAll.take {K : PySem.W.Frag} {F : Hp} : ∀ {vs : List V} {ds : List PyData} (n : Nat), DenAll K F vs ds → DenAll K F (vs.take n) (ds.take n)
  | _, _, 0, _ => .nil
  | _, _, _ + 1, .nil => .nil
  | _, _, n + 1, .cons h hs => .cons h (DenAll.take n hs)
theorem DenAll.drop {K : PySem.W.Frag} {F : Hp} : ∀ {vs : List V} {ds : List PyData} (n : Nat), DenAll K F vs ds → DenAll K F (vs.drop n) (ds.drop n)
  | _, _, 0, h => h
  | _, _, _ + 1, .nil => .nil
  | _, _, n + 1, .cons _ hs => DenAll.drop n hs
theorem DenAll.set {K : PySem.W.Frag} {F : Hp} {v : V} {d : PyData} (h : Den K F v d) : ∀ {vs : List V} {ds : List PyData} (i : Nat), DenAll K F vs ds → DenAll K F (vs.set i v) (ds.set i d)
  | _, _, _, .nil => .nil
  | _, _, 0, .cons _ hs => .cons h hs
  | _, _, i + 1, .cons g hs => .cons g (DenAll.set h i hs)
theorem DenAll.erase {K : PySem.W.Frag} {F : Hp} : ∀ {vs : List V} {ds : List PyData} (i : Nat), DenAll K F vs ds → DenAll K F (vs.eraseIdx i) (ds.eraseIdx i)
  | _, _, _, .nil => .nil
  | _, _, 0, .cons _ hs => hs
  | _, _, i + 1, .cons g hs => .cons g (DenAll.erase i hs)
theorem DenAll.reverse {K : PySem.W.Frag} {F : Hp} : ∀ {vs : List V} {ds : List PyData}, DenAll K F vs ds → DenAll K F vs.reverse ds.reverse
  | _, _, .nil => .nil
  | _, _, .cons h hs => by
    rw [List.reverse_cons, List.reverse_cons]
    exact DenAll.append (DenAll.reverse hs) (.cons h .nil)
theorem DenAll.rep {K : PySem.W.Frag} {F : Hp} {vs : List V} {ds : List PyData} (h : DenAll K F vs ds) : ∀ n : Nat, DenAll K F (List.replicate n vs).flatten (List.replicate n ds).flatten
  | 0 => .nil
  | n + 1 => by
    rw [List.replicate_succ, List.replicate_succ, List.flatten_cons, List.flatten_cons]
    exact DenAll.append h (DenAll.rep h n)
theorem DenAll.dropLast {K : PySem.W.Frag} {F : Hp} {vs : List V} {ds : List PyData} (h : DenAll K F vs ds) : DenAll K F vs.dropLast ds.dropLast := by
  rw [List.dropLast_eq_take, List.dropLast_eq_take, h.length]
  exact h.take _
theorem DenAll.ints {K : PySem.W.Frag} {F : Hp} : ∀ (ns : List Int), DenAll K F (ns.map V.int) (ns.map PyData.int)
  | [] => .nil
  | n :: ns => .cons (.int n) (DenAll.ints ns)

/-! ### what a value of the evaluator is -/
/-- a tuple stands at a -/
def TpAt (H : Hp) (a : Addr) (vs : List V) : Prop := H a = some (.tup vs) ∨ ∃ o, H a = some (.frz o (.tup vs)) ∧ o.dict = none
theorem TpAt.mono {H H' : Hp} {a : Addr} {vs : List V} (h : TpAt H a vs) (e : Same H H') : TpAt H' a vs := by
  rcases h with h | ⟨o, h, d⟩
  · exact .inl (e _ _ h)
  · exact .inr ⟨o, e _ _ h, d⟩
theorem TpAt.sq {K : PySem.W.Frag} {H : Hp} {a : Addr} {vs : List V} (h : TpAt H a vs) : SqT K H a vs := by
  rcases h with h | ⟨o, h, d⟩
  · exact .inl (.inl h)
  · exact .inl (.inr ⟨o, h⟩)
abbrev KVs := List (DK × PyData)
inductive O where
  /-- data that nothing will change -/
  | d (x : PyData)
  /-- a tuple that is no key, its object known -/
  | pt (xs : List PyData)
  /-- a list that belongs to this place alone -/
  | lst (xs : List PyData)
  /-- a list of lists that belong to this place alone -/
  | mat (rows : List (List PyData))
  /-- a dict that belongs to this place alone; t: its keys are tuples -/
  | dct (t : Bool) (kvs : KVs)
  /-- a dict that nothing will change -/
  | fdct (t : Bool) (kvs : KVs)
  /-- the law's source of numbers -/
  | src
  /-- what slot i holds, looked at -/
  | bor (i : Nat)

def KVr (K : PySem.W.Frag) (F : Hp) : List (Key × V) → KVs → Prop := Paired fun p q => q.1 = DK.k p.1 ∧ Den K F p.2 q.2
def KTr (K : PySem.W.Frag) (F : Hp) : List (List Key × V) → KVs → Prop := Paired fun p q => q.1 = DK.t p.1 ∧ Den K F p.2 q.2
def DctAt (K : PySem.W.Frag) (F H : Hp) (a : Addr) (t : Bool) (kvs : KVs) : Prop :=
  match t with
  | false => ∃ hk, H a = some (.dK hk) ∧ KVr K F hk kvs
  | true => ∃ hk, H a = some (.dT hk) ∧ KTr K F hk kvs
def RowsAt (K : PySem.W.Frag) (F H : Hp) : List Addr → List (List PyData) → Prop := Paired fun b row => ∃ vs, H b = some (.lst vs) ∧ DenAll K F vs row

def OwnAt (K : PySem.W.Frag) (F H : Hp) (S : List Addr) (σ : L2.St) : O → V → List Addr → Prop
  | .d x, v, B => B = [] ∧ Den K F v x
  | .pt xs, v, B => B = [] ∧ ∃ a vs o, v = .ref a ∧ F a = some (.frz o (.tup vs)) ∧ o.dict = none ∧ noKey xs = true ∧ DenAll K F vs xs
  | .lst xs, v, B => ∃ a vs, v = .ref a ∧ B = [a] ∧ H a = some (.lst vs) ∧ DenAll K F vs xs
  | .mat rows, v, B => ∃ a bs, v = .ref a ∧ B = a :: bs ∧ H a = some (.lst (bs.map V.ref)) ∧ RowsAt K F H bs rows
  | .dct t kvs, v, B => ∃ a, v = .ref a ∧ B = [a] ∧ DctAt K F H a t kvs
  | .fdct t kvs, v, B => ∃ a, v = .ref a ∧ B = [] ∧ DctAt K F F a t kvs
  | .src, v, B => B = [] ∧ ∃ sa ca, S = [sa, ca] ∧ v = .ref sa
  | .bor i, v, B => B = [] ∧ σ[i]? = some (some v)

theorem KVr.mono {K : PySem.W.Frag} {F F' : Hp} (e : Same F F') {a : List (Key × V)} {b : KVs} (h : KVr K F a b) : KVr K F' a b := Paired.mapP h fun _ _ z => ⟨z.1, z.2.mono e⟩
theorem KTr.mono {K : PySem.W.Frag} {F F' : Hp} (e : Same F F') {a : List (List Key × V)} {b : KVs} (h : KTr K F a b) : KTr K F' a b := Paired.mapP h fun _ _ z => ⟨z.1, z.2.mono e⟩
theorem DctAt.keep {K : PySem.W.Frag} {F F' H H' : Hp} (e : Same F F') {a : Addr} {t : Bool} {kvs : KVs} (h : DctAt K F H a t kvs) (k : ∀ o, H a = some o → H' a = some o) : DctAt K F' H' a t kvs := by
  cases t with
  | false => obtain ⟨hk, h1, h2⟩ := h; exact ⟨hk, k _ h1, h2.mono e⟩
  | true => obtain ⟨hk, h1, h2⟩ := h; exact ⟨hk, k _ h1, h2.mono e⟩
theorem Paired.mapM {α β : Type} {F G : α → β → Prop} : ∀ {l₁ : List α} {l₂ : List β}, Paired F l₁ l₂ → (∀ a b, a ∈ l₁ → F a b → G a b) → Paired G l₁ l₂
  | _, _, .nil, _ => .nil
  | _, _, .cons r t, f => .cons (f _ _ List.mem_cons_self r) (Paired.mapM t fun a b h => f a b (List.mem_cons_of_mem _ h))
theorem RowsAt.keep {K : PySem.W.Frag} {F F' H H' : Hp} (e : Same F F') {bs : List Addr} {rows : List (List PyData)} (h : RowsAt K F H bs rows) (k : ∀ b ∈ bs, ∀ o, H b = some o → H' b = some o) : RowsAt K F' H' bs rows :=
  Paired.mapM h fun b row hb ⟨vs, h1, h2⟩ => ⟨vs, k b hb _ h1, h2.mono e⟩
/-- what is kept -/
theorem OwnAt.keep {K : PySem.W.Frag} {F F' H H' : Hp} {S : List Addr} {σ : L2.St} (e : Same F F') {o : O} {v : V} {B : List Addr} (h : OwnAt K F H S σ o v B) (k : ∀ b ∈ B, ∀ u, H b = some u → H' b = some u) : OwnAt K F' H' S σ o v B := by
  cases o with
  | d x => exact ⟨h.1, h.2.mono e⟩
  | pt xs => obtain ⟨h0, a, vs, ob, e1, h1, h2, h3, h4⟩ := h; exact ⟨h0, a, vs, ob, e1, e _ _ h1, h2, h3, h4.mono e⟩
  | lst xs => obtain ⟨a, vs, rfl, rfl, h1, h2⟩ := h; exact ⟨a, vs, rfl, rfl, k a List.mem_cons_self _ h1, h2.mono e⟩
  | mat rows => obtain ⟨a, bs, rfl, rfl, h1, h2⟩ := h; exact ⟨a, bs, rfl, rfl, k a List.mem_cons_self _ h1, h2.keep e fun b hb => k b (List.mem_cons_of_mem _ hb)⟩
  | dct t kvs => obtain ⟨a, rfl, rfl, h1⟩ := h; exact ⟨a, rfl, rfl, h1.keep e (k a List.mem_cons_self)⟩
  | fdct t kvs => obtain ⟨a, rfl, rfl, h1⟩ := h; exact ⟨a, rfl, rfl, h1.keep e (e a)⟩
  | src => exact h
  | bor i => exact h

/-! ### what may be changed; what may become plain data -/
def Mu (H : Hp) (b : Addr) : Prop := (∃ xs, H b = some (.lst xs)) ∨ (∃ k, H b = some (.dK k)) ∨ ∃ k, H b = some (.dT k)
def Fre (H : Hp) (b : Addr) : Prop := H b = none ∨ ∃ vs, H b = some (.tup vs)
theorem Mu.ne {H : Hp} {b : Addr} (m : Mu H b) : H b ≠ none := by
  rcases m with ⟨x, e⟩ | ⟨x, e⟩ | ⟨x, e⟩ <;> (rw [e]; exact fun z => nomatch z)
theorem Mu.noFre {H : Hp} {b : Addr} (m : Mu H b) (f : Fre H b) : False := by
  rcases f with f | ⟨vs, f⟩
  · exact m.ne f
  · rcases m with ⟨x, e⟩ | ⟨x, e⟩ | ⟨x, e⟩ <;> (rw [e] at f; cases f)
theorem Mu.keep {H H' : Hp} {b : Addr} (m : Mu H b) (k : ∀ o, H b = some o → H' b = some o) : Mu H' b := by
  rcases m with ⟨x, e⟩ | ⟨x, e⟩ | ⟨x, e⟩
  · exact .inl ⟨x, k _ e⟩
  · exact .inr (.inl ⟨x, k _ e⟩)
  · exact .inr (.inr ⟨x, k _ e⟩)

/-! ### the state -/
structure Src where
  cells : List Int
  left : Int
  mixed : Int
  turn : Int
structure St where
  ρ : List (Option O)
  src : Option Src

/-- the source's dict, its keys in their order -/
def SrcAt (H : Hp) (sa ca : Addr) (s : Src) : Prop :=
  H sa = some (.dK [(.inr "cells", .ref ca), (.inr "left", .int s.left), (.inr "mixed", .int s.mixed), (.inr "turn", .int s.turn)]) ∧ H ca = some (.lst (s.cells.map V.int))
def SrcRel (F H : Hp) (S : List Addr) : Option Src → Prop
  | none => S = []
  | some s => ∃ sa ca, S = [sa, ca] ∧ F sa = none ∧ F ca = none ∧ SrcAt H sa ca s

/-- the addresses that the state may change -/
def Ow (S : List Addr) (A : Nat → List Addr) (b : Addr) : Prop := b ∈ S ∨ ∃ i, b ∈ A i

structure Rel (K : PySem.W.Frag) (F H : Hp) (S : List Addr) (σ : L2.St) (st : St) (A : Nat → List Addr) : Prop where
  same : Same F H
  slots : ∀ i o, st.ρ[i]? = some (some o) → ∃ v, σ[i]? = some (some v) ∧ OwnAt K F H S σ o v (A i)
  nobor : ∀ (i j : Nat), st.ρ[i]? ≠ some (some (O.bor j))
  nod : ∀ i, (A i).Nodup
  dis : ∀ i j b, b ∈ A i → b ∈ A j → i = j
  out : ∀ i b, b ∈ A i → F b = none ∧ b ∉ S ∧ Mu H b
  emp : ∀ i, (∀ o, st.ρ[i]? ≠ some (some o)) → A i = []
  src : SrcRel F H S st.src
  len : st.ρ.length ≤ σ.length

/-- from F, H to F', H': what is not in W is kept; what is in W' was in W, or is new -/
structure Step (F H : Hp) (W : Addr → Prop) (F' H' : Hp) (W' : Addr → Prop) : Prop where
  fr : Same F F'
  keep : ∀ b o, H b = some o → ¬ W b → H' b = some o
  live : ∀ b, H b ≠ none → H' b ≠ none
  own : ∀ b, W' b → W b ∨ H b = none
  frz : ∀ b, F' b ≠ none → F b ≠ none ∨ W b ∨ Fre H b
theorem Step.refl {F H : Hp} {W : Addr → Prop} : Step F H W F H W := ⟨Same.refl _, fun _ _ h _ => h, fun _ h => h, fun _ h => .inl h, fun _ h => .inl h⟩
theorem Step.trans {F H F1 H1 F2 H2 : Hp} {W W1 W2 : Addr → Prop} (a : Step F H W F1 H1 W1) (b : Step F1 H1 W1 F2 H2 W2) : Step F H W F2 H2 W2 where
  fr := a.fr.trans b.fr
  keep := fun c o h n => by
    refine b.keep c o (a.keep c o h n) fun w => ?_
    rcases a.own c w with q | q
    · exact n q
    · rw [h] at q; cases q
  live := fun c h => b.live c (a.live c h)
  own := fun c h => by
    rcases b.own c h with q | q
    · exact a.own c q
    · by_cases z : H c = none
      · exact .inr z
      · exact absurd q (a.live c z)
  frz := fun c h => by
    rcases b.frz c h with q | q | q
    · exact a.frz c q
    · rcases a.own c q with z | z
      · exact .inr (.inl z)
      · exact .inr (.inr (.inl z))
    · cases z : H c with
      | none => exact .inr (.inr (.inl z))
      | some o =>
        by_cases w : W c
        · exact .inr (.inl w)
        · have k := a.keep c o z w
          rcases q with q | ⟨vs, q⟩
          · rw [k] at q; cases q
          · rw [k] at q
            cases q
            exact .inr (.inr (.inr ⟨vs, z⟩))
theorem Step.weak {F H F1 H1 : Hp} {W W1 W2 : Addr → Prop} (a : Step F H W F1 H1 W1) (h : ∀ b, W2 b → W1 b) : Step F H W F1 H1 W2 := ⟨a.fr, a.keep, a.live, fun b z => a.own b (h b z), a.frz⟩
theorem Step.wide {F H F1 H1 : Hp} {W W0 W1 : Addr → Prop} (a : Step F H W F1 H1 W1) (h : ∀ b, W b → W0 b) : Step F H W0 F1 H1 W1 :=
  ⟨a.fr, fun b o e n => a.keep b o e fun z => n (h b z), a.live, fun b z => (a.own b z).imp (h b) id, fun b z => (a.frz b z).imp id (Or.imp (h b) id)⟩
/-- a set that the step does not own stays beside it -/
theorem Step.side {F H F1 H1 : Hp} {W W1 : Addr → Prop} (a : Step F H W F1 H1 W1) (B : Addr → Prop) : Step F H (fun b => W b ∨ B b) F1 H1 (fun b => W1 b ∨ B b) where
  fr := a.fr
  keep := fun b o e n => a.keep b o e fun z => n (.inl z)
  live := a.live
  own := fun b z => by
    rcases z with z | z
    · exact (a.own b z).imp Or.inl id
    · exact .inl (.inr z)
  frz := fun b z => (a.frz b z).imp id (Or.imp Or.inl id)

/-- the heap grows by new things, some of them plain data -/
structure Grow (F H F' H' : Hp) : Prop where
  fr : Same F F'
  hp : Same H H'
  sm : Same F' H'
  nw : ∀ b, F' b ≠ none → F b ≠ none ∨ Fre H b
theorem Grow.refl {F H : Hp} (s : Same F H) : Grow F H F H := ⟨Same.refl _, Same.refl _, s, fun _ h => .inl h⟩
theorem ne_none_of {H : Hp} {b : Addr} {o : HO} (h : H b = some o) : H b ≠ none := by rw [h]; exact fun z => by cases z
theorem some_of_ne {H : Hp} {b : Addr} (h : H b ≠ none) : ∃ o, H b = some o := by
  cases q : H b with
  | none => exact absurd q h
  | some o => exact ⟨o, rfl⟩
theorem Grow.trans {F H F1 H1 F2 H2 : Hp} (a : Grow F H F1 H1) (b : Grow F1 H1 F2 H2) : Grow F H F2 H2 := by
  refine ⟨a.fr.trans b.fr, a.hp.trans b.hp, b.sm, fun c h => ?_⟩
  rcases b.nw c h with q | q
  · exact a.nw c q
  · cases z : H c with
    | none => exact .inr (.inl z)
    | some o =>
      have k := a.hp c o z
      rcases q with q | ⟨vs, q⟩
      · rw [k] at q; cases q
      · rw [k] at q
        cases q
        exact .inr (.inr ⟨vs, z⟩)
theorem Grow.step {F H F' H' : Hp} (g : Grow F H F' H') {W : Addr → Prop} : Step F H W F' H' W :=
  ⟨g.fr, fun b o h _ => g.hp b o h, fun b h => let ⟨_, e⟩ := some_of_ne h; ne_none_of (g.hp _ _ e), fun _ h => .inl h, fun b h => (g.nw b h).imp id .inr⟩
theorem Grow.out {F H F' H' : Hp} (g : Grow F H F' H') {b : Addr} (f : F b = none) (h : Mu H b) : F' b = none := by
  cases q : F' b with
  | none => rfl
  | some u =>
    rcases g.nw b (ne_none_of q) with z | z
    · exact absurd f z
    · exact (h.noFre z).elim
theorem SrcRel.grow {F H F' H' : Hp} {S : List Addr} {s : Option Src} (r : SrcRel F H S s) (g : Grow F H F' H') : SrcRel F' H' S s := by
  cases s with
  | none => exact r
  | some s =>
    obtain ⟨sa, ca, e, f1, f2, h1, h2⟩ := r
    exact ⟨sa, ca, e, g.out f1 (.inr (.inl ⟨_, h1⟩)), g.out f2 (.inl ⟨_, h2⟩), g.hp _ _ h1, g.hp _ _ h2⟩
theorem Rel.grow {K : PySem.W.Frag} {F H F' H' : Hp} {S : List Addr} {σ : L2.St} {st : St} {A : Nat → List Addr} (r : Rel K F H S σ st A) (g : Grow F H F' H') : Rel K F' H' S σ st A where
  same := g.sm
  slots := fun i o e => let ⟨v, h1, h2⟩ := r.slots i o e; ⟨v, h1, h2.keep g.fr fun b _ u => g.hp b u⟩
  nobor := r.nobor
  nod := r.nod
  dis := r.dis
  out := fun i b hb => let ⟨h1, h2, h3⟩ := r.out i b hb; ⟨g.out h1 h3, h2, h3.keep (g.hp b)⟩
  emp := r.emp
  src := r.src.grow g
  len := r.len

/-! ### freezing -/
/-- the things at B become plain data -/
def absorb (F H : Hp) (B : List Addr) : Hp := fun b => if b ∈ B then H b else F b
theorem absorb_in {F H : Hp} {B : List Addr} {b : Addr} (h : b ∈ B) : absorb F H B b = H b := if_pos h
theorem absorb_out {F H : Hp} {B : List Addr} {b : Addr} (h : b ∉ B) : absorb F H B b = F b := if_neg h
theorem absorb_fr {F H : Hp} {B : List Addr} (s : Same F H) : Same F (absorb F H B) := fun b o e => by
  by_cases h : b ∈ B
  · rw [absorb_in h]; exact s b o e
  · rw [absorb_out h]; exact e
theorem absorb_sm {F H : Hp} {B : List Addr} (s : Same F H) : Same (absorb F H B) H := fun b o e => by
  by_cases h : b ∈ B
  · rw [absorb_in h] at e; exact e
  · rw [absorb_out h] at e; exact s b o e
theorem absorb_step {F H : Hp} {B : List Addr} {W W' : Addr → Prop} (s : Same F H) (hB : ∀ b ∈ B, W b) (hW : ∀ b, W' b → W b) : Step F H W (absorb F H B) H W' :=
  ⟨absorb_fr s, fun _ _ h _ => h, fun _ h => h, fun b h => .inl (hW b h), fun b h => by
    by_cases q : b ∈ B
    · exact .inr (.inl (hB b q))
    · rw [absorb_out q] at h; exact .inl h⟩
theorem absorb_nil {F H : Hp} : absorb F H [] = F := funext fun b => absorb_out (by simp)

/-- the data of an owned thing -/
def O.frz : O → Option O
  | .d x => some (.d x)
  | .pt xs => some (.pt xs)
  | .lst xs => some (.d (.list xs))
  | .mat rows => some (.d (.list (rows.map .list)))
  | .dct t kvs => some (.fdct t kvs)
  | .fdct t kvs => some (.fdct t kvs)
  | .src => some .src
  | .bor _ => none
theorem rows_den {K : PySem.W.Frag} {F H : Hp} : ∀ {bs : List Addr} {rows : List (List PyData)}, RowsAt K F H bs rows → DenAll K (absorb F H bs) (bs.map V.ref) (rows.map .list) ∨ ¬ Same F H := fun {bs rows} h => by
  by_cases s : Same F H
  · refine .inl ?_
    have go : ∀ {bs' : List Addr} {rows' : List (List PyData)}, (∀ b ∈ bs', b ∈ bs) → RowsAt K F H bs' rows' → DenAll K (absorb F H bs) (bs'.map V.ref) (rows'.map .list) := fun {bs' rows'} hs h => by
      induction h with
      | nil => exact .nil
      | cons r t ih =>
        obtain ⟨vs, h1, h2⟩ := r
        refine .cons (.lst ?_ (h2.mono (absorb_fr s))) (ih fun b hb => hs b (List.mem_cons_of_mem _ hb))
        rw [absorb_in (hs _ List.mem_cons_self)]
        exact h1
    exact go (fun _ h => h) h
  · exact .inr s
theorem absorb_mono {F H : Hp} {B C : List Addr} (s : Same F H) (h : ∀ b ∈ B, b ∈ C) : Same (absorb F H B) (absorb F H C) := fun b o e => by
  by_cases q : b ∈ C
  · rw [absorb_in q]
    exact absorb_sm s b o e
  · rw [absorb_out q]
    rw [absorb_out fun z => q (h b z)] at e
    exact e
/-- an owned thing, frozen -/
theorem OwnAt.frz {K : PySem.W.Frag} {F H : Hp} {S : List Addr} {σ : L2.St} (s : Same F H) {o o' : O} {v : V} {B : List Addr} (h : OwnAt K F H S σ o v B) (e : o.frz = some o') : OwnAt K (absorb F H B) H S σ o' v [] := by
  cases o with
  | d x => obtain ⟨rfl, h⟩ := h; cases e; exact ⟨rfl, h.mono (absorb_fr s)⟩
  | pt xs => obtain ⟨rfl, a, vs, ob, e1, h1, h2, h3, h4⟩ := h; cases e; exact ⟨rfl, a, vs, ob, e1, absorb_fr s _ _ h1, h2, h3, h4.mono (absorb_fr s)⟩
  | lst xs =>
    obtain ⟨a, vs, rfl, rfl, h1, h2⟩ := h
    cases e
    exact ⟨rfl, .lst (by rw [absorb_in List.mem_cons_self]; exact h1) (h2.mono (absorb_fr s))⟩
  | mat rows =>
    obtain ⟨a, bs, rfl, rfl, h1, h2⟩ := h
    cases e
    refine ⟨rfl, .lst (by rw [absorb_in List.mem_cons_self]; exact h1) ?_⟩
    rcases rows_den h2 with q | q
    · exact q.mono (absorb_mono s fun b hb => List.mem_cons_of_mem _ hb)
    · exact absurd s q
  | dct t kvs =>
    obtain ⟨a, rfl, rfl, h1⟩ := h
    cases e
    exact ⟨a, rfl, rfl, h1.keep (absorb_fr s) fun o z => by rw [absorb_in List.mem_cons_self]; exact z⟩
  | fdct t kvs =>
    obtain ⟨a, rfl, rfl, h1⟩ := h
    cases e
    exact ⟨a, rfl, rfl, h1.keep (absorb_fr s) (absorb_fr s a)⟩
  | src => obtain ⟨rfl, h⟩ := h; cases e; exact ⟨rfl, h⟩
  | bor i => cases e
/-- the state's relation, some things that are not the state's frozen -/
theorem Rel.absorb {K : PySem.W.Frag} {F H : Hp} {S : List Addr} {σ : L2.St} {st : St} {A : Nat → List Addr} (r : Rel K F H S σ st A) {B : List Addr} (hB : ∀ b ∈ B, ¬ Ow S A b) : Rel K (absorb F H B) H S σ st A where
  same := absorb_sm r.same
  slots := fun i o e => let ⟨v, h1, h2⟩ := r.slots i o e; ⟨v, h1, h2.keep (absorb_fr r.same) fun _ _ _ z => z⟩
  nobor := r.nobor
  nod := r.nod
  dis := r.dis
  out := fun i b hb => let ⟨h1, h2, h3⟩ := r.out i b hb; ⟨by rw [absorb_out fun z => hB b z (.inr ⟨i, hb⟩)]; exact h1, h2, h3⟩
  emp := r.emp
  len := r.len
  src := by
    have q := r.src
    cases hs : st.src with
    | none => rw [hs] at q; exact q
    | some s =>
      rw [hs] at q
      obtain ⟨sa, ca, e, f1, f2, h⟩ := q
      refine ⟨sa, ca, e, ?_, ?_, h⟩
      · rw [absorb_out fun z => hB sa z (.inl (by rw [e]; exact List.mem_cons_self))]; exact f1
      · rw [absorb_out fun z => hB ca z (.inl (by rw [e]; exact List.mem_cons_of_mem _ List.mem_cons_self))]; exact f2
end Vm


set_option Elab.async false
set_option linter.all false
set_option maxRecDepth 100000
/-! Vm, part 2: a small language of expressions and statements, and what they compute over plain data. -/
namespace Vm
open PySem PySem.Spec PyProof.Rows L2

/-! ### views: what an operation sees of a value -/
inductive Vw where
  /-- data; the members of a list may be taken out -/
  | d (x : PyData)
  /-- data that is looked at as it stands -/
  | h (x : PyData)
  | dct (t : Bool) (kvs : KVs)
def vw0 : O → Option Vw
  | .d x => some (.d x)
  | .pt xs => some (.d (.tuple xs))
  | .lst xs => some (.d (.list xs))
  | .mat rows => some (.h (.list (rows.map .list)))
  | .dct t kvs => some (.dct t kvs)
  | .fdct t kvs => some (.dct t kvs)
  | .src => none
  | .bor _ => none
def vw (st : St) : O → Option Vw
  | .bor i => match st.ρ[i]? with
    | some (some o) => vw0 o
    | _ => none
  | o => vw0 o

/-! ### operations by values -/
inductive Bop where
  | add | sub | mul | fdiv | fmod | pow
  deriving DecidableEq
inductive Cop where
  | eq | ne | lt | le | gt | ge | isin | notin | is | isnot
  deriving DecidableEq
def binSem : Bop → Vw → Vw → Option O
  | .add, .d (.int i), .d (.int j) => some (.d (.int (i + j)))
  | .add, .d (.list xs), .d (.list ys) => if xs.length + ys.length ≤ sizeLine then some (.lst (xs ++ ys)) else none
  | .add, .d (.tuple xs), .d (.tuple ys) => if xs.length + ys.length ≤ sizeLine then some (.d (.tuple (xs ++ ys))) else none
  | .sub, .d (.int i), .d (.int j) => some (.d (.int (i - j)))
  | .mul, .d (.int i), .d (.int j) => if i.natAbs < 2 ^ 64 ∨ j.natAbs < 2 ^ 64 ∨ i.natAbs.log2 + j.natAbs.log2 < 134217000 then some (.d (.int (i * j))) else none
  | .mul, .d (.list xs), .d (.int k) => if 0 ≤ k ∧ k < 2 ^ 63 ∧ xs.length * k.toNat ≤ sizeLine then some (.lst (List.replicate k.toNat xs).flatten) else none
  | .fdiv, .d (.int i), .d (.int j) => if 0 < j ∧ j.natAbs.log2 < 9000 then some (.d (.int (i / j))) else none
  | .fmod, .d (.int i), .d (.int j) => if 0 < j then some (.d (.int (i % j))) else none
  | .pow, .d (.int i), .d (.int j) => if 0 ≤ j ∧ j ≤ 1000000 ∧ i.natAbs < 2 ^ 64 then some (.d (.int (i ^ j.toNat))) else none
  | _, _, _ => none
def Vw.dat : Vw → Option PyData
  | .d x => some x
  | .h x => some x
  | .dct _ _ => none

/-- x and y can be compared by their order -/
def cmpOk (x y : PyData) : Bool := (match x with
  | .none => false
  | _ => true) && PySem.W.alike x y && decide (x.depth ≤ 64)
/-- x == y, by the data -/
def eqD (x y : PyData) : Option Bool := if SeqAt.shaped x && SeqAt.shaped y then some (PyData.eqv x y) else match x, y with
  | .list xs, .list ys => if xs.length = ys.length then none else some false
  | _, _ => none
def kvGet (kvs : KVs) (k : DK) : Option PyData := (kvs.find? fun p => decide (p.1 = k)).map (·.2)
def kvPut (kvs : KVs) (k : DK) (v : PyData) : KVs := if (kvs.any fun p => decide (p.1 = k)) then kvs.map fun p => if p.1 = k then (p.1, v) else p else kvs ++ [(k, v)]
def DK.tk : DK → Bool
  | .k _ => false
  | .t _ => true
/-- x in y -/
def inSem : Vw → Vw → Option Bool
  | u, .d (.list ys) => u.dat.bind fun x => if SeqAt.shaped x && SeqAt.shaped (.list ys) then some (ys.any fun z => PyData.eqv z x) else none
  | u, .h (.list ys) => u.dat.bind fun x => if SeqAt.shaped x && SeqAt.shaped (.list ys) then some (ys.any fun z => PyData.eqv z x) else none
  | u, .d (.tuple ys) => u.dat.bind fun x => if SeqAt.shaped x && SeqAt.shaped (.tuple ys) then some (ys.any fun z => PyData.eqv z x) else none
  | .d x, .dct t kvs => (toDK x).bind fun k => if k.tk = t then some (kvGet kvs k).isSome else none
  | _, _ => none
def isSem : Vw → Vw → Option Bool
  | .d x, .d .none => match x with
    | .none => some true
    | .bool _ => some false
    | .int _ => some false
    | .tuple _ => some false
    | .list _ => some false
    | _ => none
  | .d (.bool a), .d (.bool b) => some (a == b)
  | _, _ => none
def cmpSem : Cop → Vw → Vw → Option Bool
  | .eq, u, w => u.dat.bind fun x => w.dat.bind fun y => eqD x y
  | .ne, u, w => u.dat.bind fun x => w.dat.bind fun y => (eqD x y).map (!·)
  | .lt, .d x, .d y => if cmpOk x y then some (PySem.W.dataLt x y) else none
  | .le, .d x, .d y => if cmpOk x y then some (!PySem.W.dataLt y x) else none
  | .gt, .d x, .d y => if cmpOk x y then some (PySem.W.dataLt y x) else none
  | .ge, .d x, .d y => if cmpOk x y then some (!PySem.W.dataLt x y) else none
  | .isin, u, w => inSem u w
  | .notin, u, w => (inSem u w).map (!·)
  | .is, u, w => isSem u w
  | .isnot, u, w => (isSem u w).map (!·)
  | _, _, _ => none
def truSem : Vw → Option Bool
  | .d .none => some false
  | .d (.bool b) => some b
  | .d (.int i) => some (i != 0)
  | .d (.list xs) => some (!xs.isEmpty)
  | .h (.list xs) => some (!xs.isEmpty)
  | .d (.tuple xs) => some (!xs.isEmpty)
  | _ => none
def idxSem : Vw → Vw → Option O
  | .d (.list xs), .d (.int i) => (atI xs i).map .d
  | .d (.tuple xs), .d (.int i) => (atI xs i).map .d
  | .dct t kvs, .d x => (toDK x).bind fun k => if k.tk = t then (kvGet kvs k).map .d else none
  | _, _ => none
def cutD (xs : List PyData) (lo hi : Option Int) : List PyData := (xs.drop (HT.sIx xs.length 0 lo)).take (HT.sIx xs.length xs.length hi - HT.sIx xs.length 0 lo)
def slcSem : Vw → Option Int → Option Int → Option O
  | .d (.list xs), lo, hi => some (.lst (cutD xs lo hi))
  | .d (.tuple xs), lo, hi => some (.d (.tuple (cutD xs lo hi)))
  | _, _, _ => none
def revSem : Vw → Option O
  | .d (.list xs) => some (.lst xs.reverse)
  | .d (.tuple xs) => some (.d (.tuple xs.reverse))
  | _ => none
def boolsOf : List PyData → Option (List Bool)
  | [] => some []
  | .bool b :: xs => (boolsOf xs).map (b :: ·)
  | _ => none
def intsOf : List PyData → Option (List Int)
  | [] => some []
  | .int i :: xs => (intsOf xs).map (i :: ·)
  | _ => none
/-- what type a value is, by its name -/
def tyOf : Vw → Option String
  | .d .none => some "NoneType"
  | .d (.bool _) => some "bool"
  | .d (.int _) => some "int"
  | .d (.str _) => some "str"
  | .d (.list _) => some "list"
  | .h (.list _) => some "list"
  | .d (.tuple _) => some "tuple"
  | .d (.dict []) => some "dict"
  | .dct _ _ => some "dict"
  | _ => none
/-- all can be compared with each other, and Python's sort goes one way with them -/
def isTup1 : PyData → Bool
  | .tuple (_ :: _) => true
  | _ => false
def isOth : PyData → Bool
  | .tuple _ => false
  | .none => false
  | _ => true
def sortable (xs : List PyData) : Bool := (xs.all fun x => xs.all fun y => PySem.W.alike x y) && (xs.all isTup1 || xs.all isOth) && xs.all fun x => decide (x.depth ≤ 40)
def sortD (xs : List PyData) : List PyData := xs.mergeSort fun a b => !PySem.W.dataLt b a
mutual
def nolst : PyData → Bool
  | .list _ => false
  | .tuple xs => nolsts xs
  | _ => true
def nolsts : List PyData → Bool
  | [] => true
  | x :: xs => nolst x && nolsts xs
end
def pairsOf : List PyData → Option (List (PyData × PyData))
  | [] => some []
  | .tuple [a, b] :: xs => (pairsOf xs).map ((a, b) :: ·)
  | _ => none
def dictOf (t : Bool) : List (PyData × PyData) → KVs → Option KVs
  | [], acc => some acc
  | (a, b) :: r, acc => match toDK a with
    | some k => if k.tk = t then dictOf t r (kvPut acc k b) else none
    | none => none
inductive Prim where
  | len | abs | int | all | any | sum | max | min | max2 | min2 | tuple | list | sorted | repr
  | isi (T : String)
  deriving DecidableEq
inductive Mt where
  | get1 | get2
  deriving DecidableEq
def primSem : Prim → List Vw → Option O
  | .len, [.d (.list xs)] => some (.d (.int xs.length))
  | .len, [.h (.list xs)] => some (.d (.int xs.length))
  | .len, [.d (.tuple xs)] => some (.d (.int xs.length))
  | .len, [.dct _ kvs] => some (.d (.int kvs.length))
  | .abs, [.d (.int i)] => some (.d (.int (if i < 0 then -i else i)))
  | .int, [.d (.int i)] => some (.d (.int i))
  | .int, [.d (.bool b)] => some (.d (.int (if b then 1 else 0)))
  | .all, [.d (.list xs)] => (boolsOf xs).map fun bs => .d (.bool (bs.all id))
  | .any, [.d (.list xs)] => (boolsOf xs).map fun bs => .d (.bool (bs.any id))
  | .sum, [.d (.list xs)] => (intsOf xs).map fun ns => .d (.int ns.sum)
  | .max, [.d (.list xs)] => (intsOf xs).bind fun ns => ns.max?.map fun m => .d (.int m)
  | .min, [.d (.list xs)] => (intsOf xs).bind fun ns => ns.min?.map fun m => .d (.int m)
  | .max2, [.d (.int i), .d (.int j)] => some (.d (.int (if j > i then j else i)))
  | .min2, [.d (.int i), .d (.int j)] => some (.d (.int (if j < i then j else i)))
  | .tuple, [.d (.list xs)] => some (if noKey xs then .pt xs else .d (.tuple xs))
  | .tuple, [.d (.tuple xs)] => some (.d (.tuple xs))
  | .list, [.d (.list xs)] => some (.lst xs)
  | .list, [.d (.tuple xs)] => some (.lst xs)
  | .sorted, [.d (.list xs)] => if sortable xs then some (.lst (sortD xs)) else none
  | .sorted, [.dct _ kvs] => if sortable (kvs.map fun p => p.1.dat) then some (.lst (sortD (kvs.map fun p => p.1.dat))) else none
  | .repr, [u] => u.dat.bind fun x => if x.showable && decide (x.depth ≤ 40) && decide (x.shown.length ≤ sizeLine) && (!x.hasDict || nolst x) then some (.d (.str x.shown)) else none
  | .isi T, [u] => (tyOf u).bind fun t => (kitB t T).map fun b => .d (.bool b)
  | _, _ => none
/-- dict(x), x a list or tuple of pairs -/
def seqP (st : St) : O → Option (List PyData)
  | .pt xs => some xs
  | .lst xs => some xs
  | .d (.list xs) => some xs
  | .bor i => match st.ρ[i]? with
    | some (some (.lst xs)) => some xs
    | _ => none
  | _ => none
def mtSem : Mt → List Vw → Option O
  | .get1, [.dct t kvs, .d x] => (toDK x).bind fun k => if k.tk = t then some (.d ((kvGet kvs k).getD .none)) else none
  | .get2, [.dct t kvs, .d x, .d (.int y)] => (toDK x).bind fun k => if k.tk = t then some (.d ((kvGet kvs k).getD (.int y))) else none
  | _, _ => none

/-- what a method's receiver must be ahead of the arguments -/
def mtTy : Mt → Vw → Bool
  | _, .dct _ _ => true
  | _, _ => false

/-! ### the language -/
mutual
inductive Tg where
  | nm (i : Nat)
  | tp (ts : Tgs)
inductive Tgs where
  | nil
  | cons (t : Tg) (ts : Tgs)
end
mutual
inductive E where
  | int (i : Int) | bl (b : Bool) | non | str (s : Str)
  /-- a name whose value goes on; looked at; moved out -/
  | var (i : Nat) | bor (i : Nat) | mov (i : Nat)
  | bin (op : Bop) (a b : E)
  | neg (a : E)
  | cmp (op : Cop) (a b : E)
  | chain (op op' : Cop) (a b c : E)
  | not (a : T)
  | and (a b : E) | or (a b : E)
  | ife (c : T) (a b : E)
  | tup (es : Es) | lst (es : Es)
  | idx (a i : E)
  | slc (a : E) (lo hi : Oe)
  | rev (a : E)
  | fn (p : Prim) (es : Es)
  | mt (m : Mt) (a : E) (es : Es)
  | pop (i : Nat) | popi (i : Nat) (e : E)
  | call (f : Str) (es : Es) | calls (f : Str) (es : Es)
  | lc (m : Bool) (elt : E) (tg : Tg) (it : It) (c : Oc) (own : List Nat)
  | rng (l : Bool) (a b : E) | rng0 (l : Bool) (b : E)
  | dnew (t : Bool)
  /-- dict(e) -/
  | dof (t : Bool) (e : E)
  /-- of the source in slot i: one of its numbers; how many cells; its last cell taken out -/
  | sg (i : Nat) (k : Str) | sl (i : Nat) | sp (i : Nat)
inductive Es where
  | nil
  | cons (e : E) (es : Es)
inductive Oe where
  | no
  | yes (e : E)
inductive Oc where
  | no
  | yes (c : T)
inductive T where
  | v (e : E)
  | and (a b : T) | or (a b : T) | not (a : T)
inductive It where
  | seq (e : E)
  | rng1 (b : E) | rng2 (a b : E) | rng3 (a b c : E)
  | enum (e : E) | zip (a b : E) | zips (a b : E)
end

abbrev PFn := List O → Option O
abbrev SFn := List O → Src → Option (O × Src)
structure Fs where
  p : Str → Option (Nat × PFn)
  s : Str → Option (Nat × SFn)

def St.set (st : St) (i : Nat) (o : Option O) : St := { st with ρ := st.ρ.set i o }
def O.free : O → Bool
  | .src => false
  | .bor _ => false
  | _ => true
def O.slot : O → Bool
  | .bor _ => false
  | _ => true
mutual
def asg : Tg → PyData → St → Option St
  | .nm i, x, st => if i < st.ρ.length then some (st.set i (some (.d x))) else none
  | .tp ts, .tuple xs, st => asgs ts xs st
  | .tp _, _, _ => none
def asgs : Tgs → List PyData → St → Option St
  | .nil, [], st => some st
  | .cons t ts, x :: xs, st => (asg t x st).bind fun s => asgs ts xs s
  | _, _, _ => none
end
def zipD : List PyData → List PyData → List PyData
  | x :: xs, y :: ys => .tuple [x, y] :: zipD xs ys
  | _, _ => []
/-- two lists, two tuples -/
def zip2 : List PyData → Option (List PyData × List PyData)
  | [.list xs, .list ys] => some (xs, ys)
  | [.tuple xs, .tuple ys] => some (xs, ys)
  | _ => none
def zip2t : List PyData → Option (List PyData × List PyData)
  | [.tuple xs, .tuple ys] => some (xs, ys)
  | _ => none
def enumD (i : Int) : List PyData → List PyData
  | [] => []
  | x :: xs => .tuple [.int i, x] :: enumD (i + 1) xs
def rngD (a : Int) (n : Nat) : List PyData := (List.range n).map fun (k : Nat) => PyData.int (a + (k : Int))
def inBnd (a : Int) : Bool := decide (-(2 ^ 62) ≤ a) && decide (a < 2 ^ 62)
/-- all frozen -/
def frzAll : List O → Option (List O)
  | [] => some []
  | o :: os => o.frz.bind fun o' => (frzAll os).map (o' :: ·)
def O.dat : O → Option PyData
  | .d x => some x
  | .pt xs => some (.tuple xs)
  | .lst xs => some (.list xs)
  | .mat rows => some (.list (rows.map .list))
  | .dct false [] => some (.dict [])
  | _ => none
def datAll : List O → Option (List PyData)
  | [] => some []
  | o :: os => o.dat.bind fun x => (datAll os).map (x :: ·)
def rowAll : List O → Option (List (List PyData))
  | [] => some []
  | .lst xs :: os => (rowAll os).map (xs :: ·)
  | _ => none
/-- some slots forgotten -/
def clr : List Nat → St → St
  | [], st => st
  | v :: vs, st => (clr vs st).set v none
/-- a comprehension's turns -/
def lcLoop (f : PyData → St → Option (Option O × St)) (own : List Nat) : List PyData → St → Option (List O × St)
  | [], st => some ([], st)
  | x :: xs, st => (f x st).bind fun (o, s1) => (lcLoop f own xs (clr own s1)).map fun (os, s2) => (o.toList ++ os, s2)
def vwAll (st : St) : List O → Option (List Vw)
  | [] => some []
  | o :: os => (vw st o).bind fun u => (vwAll st os).map (u :: ·)
def seqOf : PyData → Option (List PyData)
  | .list xs => some xs
  | .tuple xs => some xs
  | _ => none
def rdVar (st : St) (i : Nat) : Option (O × St) := match st.ρ[i]? with
  | some (some o) => o.frz.map fun o' => (o', st.set i (some o'))
  | _ => none
def rdBor (st : St) (i : Nat) : Option (O × St) := match st.ρ[i]? with
  | some (some (.d x)) => some (.d x, st)
  | some (some (.pt xs)) => some (.pt xs, st)
  | some (some (.fdct t kvs)) => some (.fdct t kvs, st)
  | some (some .src) => none
  | some (some (.bor _)) => none
  | some (some _) => some (.bor i, st)
  | _ => none
def rdMov (st : St) (i : Nat) : Option (O × St) := match st.ρ[i]? with
  | some (some .src) => none
  | some (some (.bor _)) => none
  | some (some o) => some (o, st.set i none)
  | _ => none
/-- a value taken out of slot i's list -/
def popAt (st : St) (i : Nat) (k : Int) : Option (O × St) := match st.ρ[i]? with
  | some (some (.lst xs)) => if -(2 ^ 63) ≤ k ∧ k < 2 ^ 63 then (seqIndex? k xs.length).bind fun j => (xs[j]?).map fun y => (.d y, st.set i (some (.lst (xs.eraseIdx j)))) else none
  | _ => none
def popLast (st : St) (i : Nat) : Option (O × St) := match st.ρ[i]? with
  | some (some (.lst xs)) => (xs[xs.length - 1]?).map fun y => (.d y, st.set i (some (.lst xs.dropLast)))
  | _ => none
def isSrc (st : St) (i : Nat) : Bool := match st.ρ[i]? with
  | some (some .src) => true
  | _ => false
def sget (s : Src) (k : Str) : Option Int := if k = Str.ofString "left" then some s.left else if k = Str.ofString "mixed" then some s.mixed else if k = Str.ofString "turn" then some s.turn else none
def sput (s : Src) (k : Str) (v : Int) : Option Src := if k = Str.ofString "left" then some { s with left := v } else if k = Str.ofString "mixed" then some { s with mixed := v } else if k = Str.ofString "turn" then some { s with turn := v } else none
section
variable (Φ : Fs)
mutual
def evE : E → St → Option (O × St)
  | .int i, st => some (.d (.int i), st)
  | .bl b, st => some (.d (.bool b), st)
  | .non, st => some (.d .none, st)
  | .str s, st => some (.d (.str s), st)
  | .var i, st => rdVar st i
  | .bor i, st => rdBor st i
  | .mov i, st => rdMov st i
  | .bin op a b, st => (evE a st).bind fun (x, s1) => (evE b s1).bind fun (y, s2) => (vw s2 x).bind fun u => (vw s2 y).bind fun w => (binSem op u w).map fun r => (r, s2)
  | .neg a, st => (evE a st).bind fun (x, s1) => match x with
    | .d (.int i) => some (.d (.int (-i)), s1)
    | _ => none
  | .cmp op a b, st => (evE a st).bind fun (x, s1) => (evE b s1).bind fun (y, s2) => (vw s2 x).bind fun u => (vw s2 y).bind fun w => (cmpSem op u w).map fun r => (.d (.bool r), s2)
  | .chain op op' a b c, st => (evE a st).bind fun (x, s1) => (evE b s1).bind fun (y, s2) => (vw s2 x).bind fun u => (vw s2 y).bind fun w => (cmpSem op u w).bind fun r =>
      if r then (evE c s2).bind fun (z, s3) => (vw s3 y).bind fun w' => (vw s3 z).bind fun q => (cmpSem op' w' q).map fun r' => (.d (.bool r'), s3) else some (.d (.bool false), s2)
  | .not a, st => (evT a st).map fun (b, s1) => (.d (.bool (!b)), s1)
  | .and a b, st => (evE a st).bind fun (x, s1) => match x with
    | .d (.bool true) => evE b s1
    | .d (.bool false) => some (.d (.bool false), s1)
    | _ => none
  | .or a b, st => (evE a st).bind fun (x, s1) => match x with
    | .d (.bool true) => some (.d (.bool true), s1)
    | .d (.bool false) => evE b s1
    | _ => none
  | .ife c a b, st => (evT c st).bind fun (t, s1) => if t then evE a s1 else evE b s1
  | .tup es, st => (evEs es st).bind fun (os, s1) => if os.length ≤ sizeLine then (datAll os).map fun xs => (.d (.tuple xs), s1) else none
  | .lst es, st => (evEs es st).bind fun (os, s1) => if os.length ≤ sizeLine then (datAll os).map fun xs => (.lst xs, s1) else none
  | .idx a i, st => (evE a st).bind fun (x, s1) => (evE i s1).bind fun (y, s2) => (vw s2 x).bind fun u => (vw s2 y).bind fun w => (idxSem u w).map fun r => (r, s2)
  | .slc a lo hi, st => (evE a st).bind fun (x, s1) => (evOe lo s1).bind fun (l, s2) => (evOe hi s2).bind fun (h, s3) => (vw s3 x).bind fun u => (slcSem u l h).map fun r => (r, s3)
  | .rev a, st => (evE a st).bind fun (x, s1) => (vw s1 x).bind fun u => (revSem u).map fun r => (r, s1)
  | .fn p es, st => (evEs es st).bind fun (os, s1) => (vwAll s1 os).bind fun us => (primSem p us).map fun r => (r, s1)
  | .mt m a es, st => (evE a st).bind fun (x, s1) => (vw s1 x).bind fun u0 => if mtTy m u0 then (evEs es s1).bind fun (os, s2) => (vwAll s2 (x :: os)).bind fun us => (mtSem m us).map fun r => (r, s2) else none
  | .pop i, st => popLast st i
  | .popi i e, st => (evE e st).bind fun (x, s1) => match x with
    | .d (.int k) => popAt s1 i k
    | _ => none
  | .call f es, st => (evEs es st).bind fun (os, s1) => (frzAll os).bind fun qs => match Φ.p f with
    | some (n, φ) => if qs.length = n ∧ qs.all O.free = true then (φ qs).map fun r => (r, s1) else none
    | none => none
  | .calls f es, st => (evEs es st).bind fun (os, s1) => (frzAll os).bind fun qs => match Φ.s f, s1.src with
    | some (n, φ), some src => if qs.length = n then (φ qs src).map fun (r, src') => (r, { s1 with src := some src' }) else none
    | _, _ => none
  | .lc m elt tg it c own, st => (evIt it st).bind fun (xs, s1) =>
      (lcLoop (fun x s => (asg tg x s).bind fun s2 => (evOc c s2).bind fun (t, s3) => if t then (evE elt s3).map fun (o, s4) => (some o, s4) else some (none, s3)) own xs (clr own s1)).bind fun (os, s5) =>
        if os.length ≤ sizeLine then if m then (rowAll os).map fun rows => (.mat rows, s5) else (datAll os).map fun ys => (.lst ys, s5) else none
  | .rng l a b, st => (evE a st).bind fun (x, s1) => (evE b s1).bind fun (y, s2) => match x, y with
    | .d (.int i), .d (.int j) => if inBnd i && inBnd j && decide ((j - i).toNat ≤ sizeLine) then some (if l then .lst (rngD i (j - i).toNat) else .d (.tuple (rngD i (j - i).toNat)), s2) else none
    | _, _ => none
  | .rng0 l b, st => (evE b st).bind fun (y, s2) => match y with
    | .d (.int j) => if inBnd j && decide (j.toNat ≤ sizeLine) then some (if l then .lst (rngD 0 j.toNat) else .d (.tuple (rngD 0 j.toNat)), s2) else none
    | _ => none
  | .dnew t, st => some (.dct t [], st)
  | .dof t e, st => (evE e st).bind fun (x, s1) => if t then (seqP s1 x).bind fun xs => (pairsOf xs).bind fun ps => (dictOf true ps []).map fun kvs => (.dct true kvs, s1) else none
  | .sg i k, st => if isSrc st i then st.src.bind fun s => (sget s k).map fun v => (.d (.int v), st) else none
  | .sl i, st => if isSrc st i then st.src.map fun s => (.d (.int s.cells.length), st) else none
  | .sp i, st => if isSrc st i then st.src.bind fun s => (s.cells[s.cells.length - 1]?).map fun v => (.d (.int v), { st with src := some { s with cells := s.cells.dropLast } }) else none
def evEs : Es → St → Option (List O × St)
  | .nil, st => some ([], st)
  | .cons e es, st => (evE e st).bind fun (o, s1) => (evEs es s1).map fun (os, s2) => (o :: os, s2)
def evOe : Oe → St → Option (Option Int × St)
  | .no, st => some (none, st)
  | .yes e, st => (evE e st).bind fun (x, s1) => match x with
    | .d (.int i) => some (some i, s1)
    | _ => none
def evOc : Oc → St → Option (Bool × St)
  | .no, st => some (true, st)
  | .yes c, st => evT c st
def evT : T → St → Option (Bool × St)
  | .v e, st => (evE e st).bind fun (x, s1) => (vw s1 x).bind fun u => (truSem u).map fun b => (b, s1)
  | .and a b, st => (evT a st).bind fun (t, s1) => if t then evT b s1 else some (false, s1)
  | .or a b, st => (evT a st).bind fun (t, s1) => if t then some (true, s1) else evT b s1
  | .not a, st => (evT a st).map fun (t, s1) => (!t, s1)
def evIt : It → St → Option (List PyData × St)
  | .seq e, st => (evE e st).bind fun (x, s1) => x.dat.bind fun o => (seqOf o).map fun xs => (xs, s1)
  | .rng1 b, st => (evE b st).bind fun (y, s2) => match y with
    | .d (.int j) => if inBnd j then some (rngD 0 j.toNat, s2) else none
    | _ => none
  | .rng2 a b, st => (evE a st).bind fun (x, s1) => (evE b s1).bind fun (y, s2) => match x, y with
    | .d (.int i), .d (.int j) => if inBnd i && inBnd j then some (rngD i (j - i).toNat, s2) else none
    | _, _ => none
  | .rng3 a b c, st => none
  | .enum e, st => (evE e st).bind fun (x, s1) => x.dat.bind fun o => (seqOf o).map fun xs => (enumD 0 xs, s1)
  | .zip a b, st => (evE a st).bind fun (x, s1) => (evE b s1).bind fun (y, s2) => (datAll [x, y]).bind fun ds => (zip2 ds).map fun (xs, ys) => (zipD xs ys, s2)
  | .zips a b, st => (evE a st).bind fun (x, s1) => (evE b s1).bind fun (y, s2) => (datAll [x, y]).bind fun ds => (zip2t ds).bind fun (xs, ys) => if xs.length = ys.length then some (zipD xs ys, s2) else none
end
end

/-! ### statements -/
mutual
inductive S where
  | set (i : Nat) (e : E)
  | par (is : List Nat) (es : Es)
  | unp (ts : Tgs) (e : E)
  | aug (i : Nat) (op : Bop) (e : E)
  | sti (i : Nat) (k e : E)
  | aui (i : Nat) (k : E) (op : Bop) (e : E)
  | app (i : Nat) (e : E)
  | ext (i : Nat) (e : E)
  | ap2 (i : Nat) (j e : E)
  | expr (e : E)
  | ifs (c : T) (a b : Ss)
  | forr (tg : Tg) (it : It) (body : Ss)
  | whl (fuel : Nat) (c : T) (body : Ss)
  | ret (e : E) | retn
  | brk | cnt | pass
  /-- a number of the source in slot i stored -/
  | sw (i : Nat) (k : Str) (e : E)
inductive Ss where
  | nil
  | cons (s : S) (ss : Ss)
end
inductive Out where
  | nx (st : St)
  | ret (o : O) (src : Option Src)
  | brk (st : St)
  | cnt (st : St)
/-- a loop's turns -/
def forLoop (f : PyData → St → Option Out) : List PyData → St → Option Out
  | [], st => some (.nx st)
  | x :: xs, st => match f x st with
    | some (.nx s) => forLoop f xs s
    | some (.cnt s) => forLoop f xs s
    | some (.brk s) => some (.nx s)
    | some (.ret o s) => some (.ret o s)
    | none => none
def whlLoop (c : St → Option (Bool × St)) (f : St → Option Out) : Nat → St → Option Out
  | 0, _ => none
  | n + 1, st => match c st with
    | some (true, s1) => (match f s1 with
      | some (.nx s) => whlLoop c f n s
      | some (.cnt s) => whlLoop c f n s
      | some (.brk s) => some (.nx s)
      | some (.ret o s) => some (.ret o s)
      | none => none)
    | some (false, s1) => some (.nx s1)
    | none => none
/-- a value goes into slot i -/
def put (st : St) (i : Nat) (o : O) : Option St := if i < st.ρ.length ∧ o.slot = true then some (st.set i (some o)) else none
def puts : List Nat → List O → St → Option St
  | [], [], st => some st
  | i :: is, o :: os, st => (put st i o).bind fun s => puts is os s
  | _, _, _ => none
/-- x[k] = v -/
def stAt (st : St) (i : Nat) (k v : O) : Option St := match st.ρ[i]?, k, v.dat with
  | some (some (.lst xs)), .d (.int n), some y => (ixN xs.length n).map fun j => st.set i (some (.lst (xs.set j y)))
  | some (some (.dct t kvs)), .d x, some y => (toDK x).bind fun q => if q.tk = t ∧ kvs.length < sizeLine then some (st.set i (some (.dct t (kvPut kvs q y)))) else none
  | _, _, _ => none
def getAt (st : St) (i : Nat) (k : O) : Option PyData := match st.ρ[i]?, k with
  | some (some (.lst xs)), .d (.int n) => atI xs n
  | some (some (.dct t kvs)), .d x => (toDK x).bind fun q => if q.tk = t then kvGet kvs q else none
  | _, _ => none
def augSem : Bop → PyData → PyData → Option PyData
  | .add, .int i, .int j => some (.int (i + j))
  | .sub, .int i, .int j => some (.int (i - j))
  | _, _, _ => none
def appAt (st : St) (i : Nat) (v : O) : Option St := match st.ρ[i]?, v.dat with
  | some (some (.lst xs)), some y => if xs.length < sizeLine then some (st.set i (some (.lst (xs ++ [y])))) else none
  | _, _ => none
def app2At (st : St) (i : Nat) (k v : O) : Option St := match st.ρ[i]?, k, v.dat with
  | some (some (.mat rows)), .d (.int n), some y => (ixN rows.length n).bind fun j => (rows[j]?).bind fun row => if row.length < sizeLine then some (st.set i (some (.mat (rows.set j (row ++ [y]))))) else none
  | _, _, _ => none
section
variable (Φ : Fs)
mutual
def evS : S → St → Option Out
  | .set i e, st => (evE Φ e st).bind fun (o, s1) => (put s1 i o).map .nx
  | .par is es, st => (evEs Φ es st).bind fun (os, s1) => (puts is os s1).map .nx
  | .unp ts e, st => (evE Φ e st).bind fun (o, s1) => match o with
    | .d (.tuple xs) => (asgs ts xs s1).map .nx
    | _ => none
  | .aug i op e, st => match st.ρ[i]? with
    | some (some (.d x)) => (evE Φ e st).bind fun (o, s1) => (match o with
      | .d y => (augSem op x y).bind fun z => (put s1 i (.d z)).map .nx
      | _ => none)
    | _ => none
  | .sti i k e, st => match st.ρ[i]? with
    | some (some _) => (evE Φ e st).bind fun (v, s1) => (evE Φ k s1).bind fun (o, s2) => (stAt s2 i o v).map .nx
    | _ => none
  | .aui i k op e, st => (evE Φ k st).bind fun (o, s1) => (getAt s1 i o).bind fun x => (evE Φ e s1).bind fun (v, s2) => (match v with
      | .d y => (augSem op x y).bind fun z => (stAt s2 i o (.d z)).map .nx
      | _ => none)
  | .app i e, st => match st.ρ[i]? with
    | some (some (.lst _)) => (evE Φ e st).bind fun (v, s1) => (appAt s1 i v).map .nx
    | _ => none
  | .ext i e, st => none
  | .ap2 i j e, st => (evE Φ j st).bind fun (o, s1) => (evE Φ e s1).bind fun (v, s2) => (app2At s2 i o v).map .nx
  | .expr e, st => (evE Φ e st).map fun (_, s1) => .nx s1
  | .ifs c a b, st => (evT Φ c st).bind fun (t, s1) => if t then evSs a s1 else evSs b s1
  | .forr tg it body, st => (evIt Φ it st).bind fun (xs, s1) => forLoop (fun x s => (asg tg x s).bind fun s2 => evSs body s2) xs s1
  | .whl fuel c body, st => whlLoop (evT Φ c) (evSs body) fuel st
  | .ret e, st => (evE Φ e st).bind fun (o, s1) => if o.slot then some (.ret o s1.src) else none
  | .retn, st => some (.ret (.d .none) st.src)
  | .brk, st => some (.brk st)
  | .cnt, st => some (.cnt st)
  | .pass, st => some (.nx st)
  | .sw i k e, st => if isSrc st i then (evE Φ e st).bind fun (o, s1) => match o with
    | .d (.int v) => s1.src.bind fun s => (sput s k v).map fun s' => .nx { s1 with src := some s' }
    | _ => none else none
def evSs : Ss → St → Option Out
  | .nil, st => some (.nx st)
  | .cons s ss, st => match evS s st with
    | some (.nx s1) => evSs ss s1
    | r => r
end
/-- a def's body, called -/
def initR (n : Nat) (os : List O) : List (Option O) := os.map some ++ List.replicate (n - os.length) none
def runP (n : Nat) (body : Ss) (os : List O) : Option O := match evSs Φ body ⟨initR n os, none⟩ with
  | some (.ret o _) => some o
  | some (.nx _) => some (.d .none)
  | _ => none
def runS (n : Nat) (body : Ss) (os : List O) (src : Src) : Option (O × Src) := match evSs Φ body ⟨initR n os, some src⟩ with
  | some (.ret o (some s)) => some (o, s)
  | some (.nx st) => st.src.map fun s => (.d .none, s)
  | _ => none
end
end Vm


set_option Elab.async false
set_option linter.all false
set_option maxRecDepth 100000
/-! Vm, part 3: the evaluator as a reading of the hand layer; what happens to slots. -/
namespace Vm
open PySem PySem.Spec PyProof.Rows L2

/-! ### readings -/
structure Post (K : PySem.W.Frag) (F H : Hp) (S : List Addr) (σ : L2.St) (A : Nat → List Addr) (o : O) (st' : St) (v : V) (F' H' : Hp) (A' : Nat → List Addr) (B : List Addr) : Prop where
  step : Step F H (Ow S A) F' H' (fun b => Ow S A' b ∨ b ∈ B)
  rel : Rel K F' H' S σ st' A'
  own : OwnAt K F' H' S σ o v B
  nod : B.Nodup
  new : ∀ b ∈ B, F' b = none ∧ ¬ Ow S A' b ∧ Mu H' b
structure PostT (K : PySem.W.Frag) (F H : Hp) (S : List Addr) (σ σ' : L2.St) (A : Nat → List Addr) (st' : St) (F' H' : Hp) (A' : Nat → List Addr) : Prop where
  step : Step F H (Ow S A) F' H' (Ow S A')
  rel : Rel K F' H' S σ' st' A'

inductive OwnAll (K : PySem.W.Frag) (F H : Hp) (S : List Addr) (σ : L2.St) : List O → List V → List Addr → Prop
  | nil : OwnAll K F H S σ [] [] []
  | cons {o : O} {v : V} {B : List Addr} {os : List O} {vs : List V} {Bs : List Addr} : OwnAt K F H S σ o v B → OwnAll K F H S σ os vs Bs → OwnAll K F H S σ (o :: os) (v :: vs) (B ++ Bs)
structure PostL (K : PySem.W.Frag) (F H : Hp) (S : List Addr) (σ : L2.St) (A : Nat → List Addr) (os : List O) (st' : St) (vs : List V) (F' H' : Hp) (A' : Nat → List Addr) (B : List Addr) : Prop where
  step : Step F H (Ow S A) F' H' (fun b => Ow S A' b ∨ b ∈ B)
  rel : Rel K F' H' S σ st' A'
  own : OwnAll K F' H' S σ os vs B
  nod : B.Nodup
  new : ∀ b ∈ B, F' b = none ∧ ¬ Ow S A' b ∧ Mu H' b

def tE (Φ : Fs) (K : PySem.W.Frag) (e : E) : TE := fun σ H Q => ∃ F S st A o st', Rel K F H S σ st A ∧ evE Φ e st = some (o, st') ∧ ∀ v F' H' A' B, Post K F H S σ A o st' v F' H' A' B → Q v H'
def tEs (Φ : Fs) (K : PySem.W.Frag) (es : Es) : TA := fun σ H Q => ∃ F S st A os st', Rel K F H S σ st A ∧ evEs Φ es st = some (os, st') ∧ ∀ vs F' H' A' B, PostL K F H S σ A os st' vs F' H' A' B → Q vs H'
def tT (Φ : Fs) (K : PySem.W.Frag) (c : T) : TT := fun σ H Q => ∃ F S st A b st', Rel K F H S σ st A ∧ evT Φ c st = some (b, st') ∧ ∀ F' H' A', PostT K F H S σ σ A st' F' H' A' → Q b H'
def tOe (Φ : Fs) (K : PySem.W.Frag) (e : Oe) : TO := fun σ H Q => ∃ F S st A o st', Rel K F H S σ st A ∧ evOe Φ e st = some (o, st') ∧ ∀ F' H' A', PostT K F H S σ σ A st' F' H' A' → Q o H'

theorem PE.imp {X : Cx} {e : Expr} {t t' : TE} (h : PE X e t) (i : ∀ σ H Q, t' σ H Q → t σ H Q) : PE X e t' := ⟨fun pins s σ H Q I q => h.run pins s σ H Q I (i σ H Q q)⟩
theorem PT.imp {X : Cx} {e : Expr} {t t' : TT} (h : PT X e t) (i : ∀ σ H Q, t' σ H Q → t σ H Q) : PT X e t' := ⟨fun pins s σ H Q I q => h.run pins s σ H Q I (i σ H Q q)⟩
theorem PW.imp {X : Cx} {e : Expr} {t t' : TT} (h : PW X e t) (i : ∀ σ H Q, t' σ H Q → t σ H Q) : PW X e t' := ⟨fun whole pins s σ H Q I q => h.run whole pins s σ H Q I (i σ H Q q)⟩
theorem PA.imp {X : Cx} {es : List Expr} {t t' : TA} (h : PA X es t) (i : ∀ σ H Q, t' σ H Q → t σ H Q) : PA X es t' := ⟨fun pos pins s σ H Q I q => h.run pos pins s σ H Q I (i σ H Q q)⟩
theorem PS.imp {X : Cx} {st : Stmt} {t t' : TS} (h : PS X st t) (i : ∀ D σ H, t' D σ H → t D σ H) : PS X st t' := ⟨fun pins s σ H D I q => h.run pins s σ H D I (i D σ H q)⟩
theorem PSs.imp {X : Cx} {st : List Stmt} {t t' : TS} (h : PSs X st t) (i : ∀ D σ H, t' D σ H → t D σ H) : PSs X st t' := ⟨fun pins s σ H D I q => h.run pins s σ H D I (i D σ H q)⟩
theorem PE.or {X : Cx} {e : Expr} {t t' : TE} (h : PE X e t) (h' : PE X e t') : PE X e (fun σ H Q => t σ H Q ∨ t' σ H Q) := ⟨fun pins s σ H Q I q => q.elim (h.run pins s σ H Q I) (h'.run pins s σ H Q I)⟩
theorem PS.or {X : Cx} {e : Stmt} {t t' : TS} (h : PS X e t) (h' : PS X e t') : PS X e (fun D σ H => t D σ H ∨ t' D σ H) := ⟨fun pins s σ H D I q => q.elim (h.run pins s σ H D I) (h'.run pins s σ H D I)⟩
theorem OpR.imp {X : Cx} {f : Value → Value → Sem Value} {r r' : R2} (h : OpR X f r) (i : ∀ x y H Q, r' x y H Q → r x y H Q) : OpR X f r' := fun pins s σ H x y v u Q I rx ry q => h pins s σ H x y v u Q I rx ry (i x y H Q q)

/-! ### nothing happens -/
theorem Post.here {K : PySem.W.Frag} {F H : Hp} {S : List Addr} {σ : L2.St} {A : Nat → List Addr} {st : St} {o : O} {v : V} (R : Rel K F H S σ st A) (h : OwnAt K F H S σ o v []) : Post K F H S σ A o st v F H A [] :=
  ⟨Step.refl.weak fun b h => h.elim id (fun z => nomatch z), R, h, List.nodup_nil, fun _ z => nomatch z⟩
theorem PostT.here {K : PySem.W.Frag} {F H : Hp} {S : List Addr} {σ : L2.St} {A : Nat → List Addr} {st : St} (R : Rel K F H S σ st A) : PostT K F H S σ σ A st F H A := ⟨Step.refl, R⟩

/-! ### slots -/
def upA (A : Nat → List Addr) (i : Nat) (B : List Addr) : Nat → List Addr := fun j => if j = i then B else A j
theorem upA_same {A : Nat → List Addr} {i : Nat} {B : List Addr} : upA A i B i = B := if_pos rfl
theorem upA_ne {A : Nat → List Addr} {i j : Nat} {B : List Addr} (h : j ≠ i) : upA A i B j = A j := if_neg h
theorem slot_of {K : PySem.W.Frag} {F H : Hp} {S : List Addr} {σ : L2.St} {st : St} {A : Nat → List Addr} (R : Rel K F H S σ st A) {i : Nat} {o : O} (e : st.ρ[i]? = some (some o)) : ∃ v, σ[i]? = some (some v) ∧ OwnAt K F H S σ o v (A i) := R.slots i o e
theorem lt_of_slot {st : St} {i : Nat} {o : O} (e : st.ρ[i]? = some (some o)) : i < st.ρ.length := (List.getElem?_eq_some_iff.mp e).1
theorem set_get_same {st : St} {i : Nat} {o : Option O} (h : i < st.ρ.length) : (st.set i o).ρ[i]? = some o := by
  show (st.ρ.set i o)[i]? = some o
  rw [List.getElem?_set_self h]
theorem set_get_ne {st : St} {i j : Nat} {o : Option O} (h : j ≠ i) : (st.set i o).ρ[j]? = st.ρ[j]? := by
  show (st.ρ.set i o)[j]? = st.ρ[j]?
  rw [List.getElem?_set_ne (Ne.symm h)]
/-- slot i is given a value anew: its old things are dropped. σ' agrees with σ elsewhere -/
theorem Rel.slot {K : PySem.W.Frag} {F H : Hp} {S : List Addr} {σ σ' : L2.St} {st : St} {A : Nat → List Addr} (R : Rel K F H S σ st A) {i : Nat} {o : O} {v : V} {B : List Addr} (hi : i < st.ρ.length) (hs : o.slot = true)
    (h : OwnAt K F H S σ' o v B) (e : σ'[i]? = some (some v)) (ne : ∀ j, j ≠ i → σ'[j]? = σ[j]?) (nod : B.Nodup) (new : ∀ b ∈ B, F b = none ∧ b ∉ S ∧ Mu H b ∧ ∀ j, j ≠ i → b ∉ A j) : Rel K F H S σ' (st.set i (some o)) (upA A i B) where
  same := R.same
  slots := fun j u z => by
    by_cases q : j = i
    · subst q
      rw [set_get_same hi] at z
      cases z
      exact ⟨v, e, by rw [upA_same]; exact h⟩
    · rw [set_get_ne q] at z
      obtain ⟨w, h1, h2⟩ := R.slots j u z
      refine ⟨w, (ne j q).trans h1, ?_⟩
      rw [upA_ne q]
      cases u with
      | d x => exact h2
      | pt xs => exact h2
      | lst xs => exact h2
      | mat rows => exact h2
      | dct t kvs => exact h2
      | fdct t kvs => exact h2
      | src => exact h2
      | bor k => exact absurd z (R.nobor j k)
  nobor := fun j k z => by
    by_cases q : j = i
    · subst q
      rw [set_get_same hi] at z
      cases z
      cases hs
    · rw [set_get_ne q] at z
      exact R.nobor j k z
  nod := fun j => by
    by_cases q : j = i
    · subst q; rw [upA_same]; exact nod
    · rw [upA_ne q]; exact R.nod j
  dis := fun j k b h1 h2 => by
    by_cases q : j = i
    · by_cases r : k = i
      · rw [q, r]
      · rw [q, upA_same] at h1
        rw [upA_ne r] at h2
        exact absurd h2 ((new b h1).2.2.2 k r)
    · rw [upA_ne q] at h1
      by_cases r : k = i
      · rw [r, upA_same] at h2
        exact absurd h1 ((new b h2).2.2.2 j q)
      · rw [upA_ne r] at h2
        exact R.dis j k b h1 h2
  out := fun j b hb => by
    by_cases q : j = i
    · rw [q, upA_same] at hb
      exact ⟨(new b hb).1, (new b hb).2.1, (new b hb).2.2.1⟩
    · rw [upA_ne q] at hb
      exact R.out j b hb
  emp := fun j hj => by
    by_cases q : j = i
    · subst q
      exact absurd (set_get_same hi) (hj o)
    · rw [upA_ne q]
      exact R.emp j fun u z => hj u (by rw [set_get_ne q]; exact z)
  src := R.src
  len := by
    show (st.ρ.set i (some o)).length ≤ σ'.length
    rw [List.length_set]
    have hl := R.len
    refine Nat.le_of_not_lt fun z => ?_
    have h1 : σ'[σ'.length]? = none := List.getElem?_eq_none (Nat.le_refl _)
    by_cases q : σ'.length = i
    · rw [← q] at e; rw [h1] at e; cases e
    · rw [ne _ q] at h1
      have := List.getElem?_eq_none_iff.mp h1
      omega
/-- slot i is forgotten -/
theorem Rel.drop {K : PySem.W.Frag} {F H : Hp} {S : List Addr} {σ σ' : L2.St} {st : St} {A : Nat → List Addr} (R : Rel K F H S σ st A) {i : Nat} (ne : ∀ j, j ≠ i → σ'[j]? = σ[j]?) (hl : σ.length ≤ σ'.length := by exact Nat.le_refl _) : Rel K F H S σ' (st.set i none) (upA A i []) where
  same := R.same
  slots := fun j u z => by
    by_cases q : j = i
    · subst q
      by_cases hi : j < st.ρ.length
      · rw [set_get_same hi] at z; cases z
      · have : (st.set j none).ρ[j]? = none := List.getElem?_eq_none (by show (st.ρ.set j none).length ≤ j; rw [List.length_set]; omega)
        rw [this] at z; cases z
    · rw [set_get_ne q] at z
      obtain ⟨w, h1, h2⟩ := R.slots j u z
      refine ⟨w, (ne j q).trans h1, ?_⟩
      rw [upA_ne q]
      cases u with
      | d x => exact h2
      | pt xs => exact h2
      | lst xs => exact h2
      | mat rows => exact h2
      | dct t kvs => exact h2
      | fdct t kvs => exact h2
      | src => exact h2
      | bor k => exact absurd z (R.nobor j k)
  nobor := fun j k z => by
    by_cases q : j = i
    · subst q
      by_cases hi : j < st.ρ.length
      · rw [set_get_same hi] at z; cases z
      · have : (st.set j none).ρ[j]? = none := List.getElem?_eq_none (by show (st.ρ.set j none).length ≤ j; rw [List.length_set]; omega)
        rw [this] at z; cases z
    · rw [set_get_ne q] at z
      exact R.nobor j k z
  nod := fun j => by
    by_cases q : j = i
    · subst q; rw [upA_same]; exact List.nodup_nil
    · rw [upA_ne q]; exact R.nod j
  dis := fun j k b h1 h2 => by
    by_cases q : j = i
    · rw [q, upA_same] at h1; cases h1
    · rw [upA_ne q] at h1
      by_cases r : k = i
      · rw [r, upA_same] at h2; cases h2
      · rw [upA_ne r] at h2
        exact R.dis j k b h1 h2
  out := fun j b hb => by
    by_cases q : j = i
    · rw [q, upA_same] at hb; cases hb
    · rw [upA_ne q] at hb
      exact R.out j b hb
  emp := fun j hj => by
    by_cases q : j = i
    · subst q; rw [upA_same]
    · rw [upA_ne q]
      exact R.emp j fun u z => hj u (by rw [set_get_ne q]; exact z)
  src := R.src
  len := by
    show (st.ρ.set i none).length ≤ σ'.length
    rw [List.length_set]
    exact Nat.le_trans R.len hl
theorem ow_up {S : List Addr} {A : Nat → List Addr} {i : Nat} {b : Addr} (h : Ow S (upA A i []) b) : Ow S A b := by
  rcases h with h | ⟨j, h⟩
  · exact .inl h
  · by_cases q : j = i
    · rw [q, upA_same] at h; cases h
    · rw [upA_ne q] at h; exact .inr ⟨j, h⟩
theorem ow_upB {S : List Addr} {A : Nat → List Addr} {i : Nat} {B : List Addr} {b : Addr} (h : Ow S (upA A i B) b) : Ow S A b ∨ b ∈ B := by
  rcases h with h | ⟨j, h⟩
  · exact .inl (.inl h)
  · by_cases q : j = i
    · rw [q, upA_same] at h; exact .inr h
    · rw [upA_ne q] at h; exact .inl (.inr ⟨j, h⟩)

/-- slot i read so that its value goes on: frozen -/
theorem rdVar_ok {K : PySem.W.Frag} {F H : Hp} {S : List Addr} {σ : L2.St} {st st' : St} {A : Nat → List Addr} {i : Nat} {o : O} (R : Rel K F H S σ st A) (e : rdVar st i = some (o, st')) :
    ∃ v, σ[i]? = some (some v) ∧ Post K F H S σ A o st' v (absorb F H (A i)) H (upA A i []) [] := by
  unfold rdVar at e
  cases q : st.ρ[i]? with
  | none => rw [q] at e; cases e
  | some u =>
    cases u with
    | none => rw [q] at e; cases e
    | some u =>
      rw [q] at e
      obtain ⟨v, h1, h2⟩ := R.slots i u q
      have e : (u.frz.map fun o' => (o', st.set i (some o'))) = some (o, st') := e
      cases hf : u.frz with
      | none => rw [hf] at e; cases e
      | some w =>
        rw [hf] at e
        cases e
        have hz := h2.frz R.same hf
        have hB : ∀ b ∈ A i, ¬ Ow S (upA A i []) b := fun b hb z => by
          rcases z with z | ⟨j, z⟩
          · exact (R.out i b hb).2.1 z
          · by_cases r : j = i
            · rw [r, upA_same] at z; cases z
            · rw [upA_ne r] at z
              exact r (R.dis j i b z hb)
        have R1 : Rel K (absorb F H (A i)) H S σ (st.set i none) (upA A i []) := (R.drop (σ' := σ) fun _ _ => rfl).absorb hB
        have hi := lt_of_slot q
        have sl : o.slot = true := by
          cases u <;> first | (cases hf; rfl) | cases hf
        have R2 := R1.slot (i := i) (o := o) (v := v) (B := []) (σ' := σ) (by show i < (st.ρ.set i none).length; rw [List.length_set]; exact hi) sl hz h1 (fun _ _ => rfl) List.nodup_nil (fun _ z => nomatch z)
        have es : (st.set i none).set i (some o) = st.set i (some o) := by unfold St.set; simp
        have eA : upA (upA A i []) i [] = upA A i [] := by funext j; unfold upA; by_cases r : j = i <;> simp [r]
        rw [es, eA] at R2
        exact ⟨v, h1, ⟨absorb_step R.same (fun b hb => .inr ⟨i, hb⟩) (fun b h => h.elim ow_up (fun z => nomatch z)), R2, hz, List.nodup_nil, (fun _ z => nomatch z)⟩⟩
theorem rdBor_ok {K : PySem.W.Frag} {F H : Hp} {S : List Addr} {σ : L2.St} {st st' : St} {A : Nat → List Addr} {i : Nat} {o : O} (R : Rel K F H S σ st A) (e : rdBor st i = some (o, st')) :
    ∃ v, σ[i]? = some (some v) ∧ Post K F H S σ A o st' v F H A [] := by
  unfold rdBor at e
  cases q : st.ρ[i]? with
  | none => rw [q] at e; cases e
  | some u =>
    cases u with
    | none => rw [q] at e; cases e
    | some u =>
      rw [q] at e
      obtain ⟨v, h1, h2⟩ := R.slots i u q
      refine ⟨v, h1, ?_⟩
      cases u with
      | d x => cases e; exact .here R ⟨rfl, h2.2⟩
      | pt xs => cases e; exact .here R ⟨rfl, h2.2⟩
      | lst xs => cases e; exact .here R ⟨rfl, h1⟩
      | mat rows => cases e; exact .here R ⟨rfl, h1⟩
      | dct t kvs => cases e; exact .here R ⟨rfl, h1⟩
      | fdct t kvs =>
        cases e
        obtain ⟨a, e1, _, e3⟩ := h2
        exact .here R ⟨a, e1, rfl, e3⟩
      | src => cases e
      | bor k => cases e
theorem rdMov_ok {K : PySem.W.Frag} {F H : Hp} {S : List Addr} {σ : L2.St} {st st' : St} {A : Nat → List Addr} {i : Nat} {o : O} (R : Rel K F H S σ st A) (e : rdMov st i = some (o, st')) :
    ∃ v, σ[i]? = some (some v) ∧ Post K F H S σ A o st' v F H (upA A i []) (A i) := by
  unfold rdMov at e
  cases q : st.ρ[i]? with
  | none => rw [q] at e; cases e
  | some u =>
    cases u with
    | none => rw [q] at e; cases e
    | some u =>
      rw [q] at e
      obtain ⟨v, h1, h2⟩ := R.slots i u q
      have e' : (u, st.set i none) = (o, st') := by
        cases u with
        | d x => exact Option.some.inj e
        | pt xs => exact Option.some.inj e
        | lst xs => exact Option.some.inj e
        | mat rows => exact Option.some.inj e
        | dct t kvs => exact Option.some.inj e
        | fdct t kvs => exact Option.some.inj e
        | src => cases e
        | bor k => cases e
      cases e'
      refine ⟨v, h1, ⟨⟨Same.refl _, fun _ _ h _ => h, fun _ h => h, fun b h => .inl ?_, fun _ h => .inl h⟩, R.drop fun _ _ => rfl, h2, R.nod i, fun b hb => ⟨(R.out i b hb).1, fun z => ?_, (R.out i b hb).2.2⟩⟩⟩
      · rcases h with h | h
        · exact ow_up h
        · exact .inr ⟨i, h⟩
      · rcases z with z | ⟨j, z⟩
        · exact (R.out i b hb).2.1 z
        · by_cases r : j = i
          · rw [r, upA_same] at z; cases z
          · rw [upA_ne r] at z
            exact r (R.dis j i b z hb)

/-! ### views -/
def VwAt (K : PySem.W.Frag) (F H : Hp) (v : V) : Vw → Prop
  | .d x => Den K F v x ∨ ∃ a vs xs, v = .ref a ∧ x = .list xs ∧ H a = some (.lst vs) ∧ DenAll K F vs xs
  | .h x => Den K H v x
  | .dct t kvs => ∃ a, v = .ref a ∧ DctAt K F H a t kvs
theorem RowsAt.den {K : PySem.W.Frag} {F H : Hp} (s : Same F H) : ∀ {bs : List Addr} {rows : List (List PyData)}, RowsAt K F H bs rows → DenAll K H (bs.map V.ref) (rows.map .list)
  | _, _, .nil => .nil
  | _, _, .cons ⟨vs, h1, h2⟩ t => .cons (.lst h1 (h2.mono s)) (RowsAt.den s t)
theorem vw0_ok {K : PySem.W.Frag} {F H : Hp} {S : List Addr} {σ : L2.St} {o : O} {v : V} {B : List Addr} {u : Vw} (s : Same F H) (h : OwnAt K F H S σ o v B) (e : vw0 o = some u) : VwAt K F H v u := by
  cases o with
  | d x => cases e; exact .inl h.2
  | pt xs => cases e; obtain ⟨_, a, vs, ob, e1, h1, h2, h3, h4⟩ := h; rw [e1]; exact .inl (.ftup h1 h2 h3 h4)
  | lst xs => cases e; obtain ⟨a, vs, e1, _, h1, h2⟩ := h; exact .inr ⟨a, vs, xs, e1, rfl, h1, h2⟩
  | mat rows => cases e; obtain ⟨a, bs, rfl, _, h1, h2⟩ := h; exact .lst h1 (h2.den s)
  | dct t kvs => cases e; obtain ⟨a, e1, _, h1⟩ := h; exact ⟨a, e1, h1⟩
  | fdct t kvs => cases e; obtain ⟨a, e1, _, h1⟩ := h; exact ⟨a, e1, h1.keep (Same.refl _) (s a)⟩
  | src => cases e
  | bor i => cases e
theorem vw_ok {K : PySem.W.Frag} {F H : Hp} {S : List Addr} {σ : L2.St} {st : St} {A : Nat → List Addr} {o : O} {v : V} {B : List Addr} {u : Vw} (R : Rel K F H S σ st A) (h : OwnAt K F H S σ o v B) (e : vw st o = some u) : VwAt K F H v u := by
  cases o with
  | bor i =>
    unfold vw at e
    cases q : st.ρ[i]? with
    | none => simp [q] at e
    | some w =>
      cases w with
      | none => simp [q] at e
      | some w =>
        simp only [q] at e
        obtain ⟨v', h1, h2⟩ := R.slots i w q
        have e1 : σ[i]? = some (some v) := h.2
        rw [h1] at e1
        cases e1
        exact vw0_ok R.same h2 e
  | d x => exact vw0_ok R.same h e
  | pt xs => exact vw0_ok R.same h e
  | lst xs => exact vw0_ok R.same h e
  | mat rows => exact vw0_ok R.same h e
  | dct t kvs => exact vw0_ok R.same h e
  | fdct t kvs => exact vw0_ok R.same h e
  | src => cases e

/-! ### what an operation by values gives -/
/-- the value r stands in the grown heap -/
structure ResAt (K : PySem.W.Frag) (F H : Hp) (r : O) (v : V) (F' H' : Hp) (B : List Addr) : Prop where
  grow : Grow F H F' H'
  own : OwnAt K F' H' [] [] r v B
  nod : B.Nodup
  new : ∀ b ∈ B, H b = none ∧ F' b = none ∧ Mu H' b
theorem OwnAt.any {K : PySem.W.Frag} {F H : Hp} {S S' : List Addr} {σ σ' : L2.St} {o : O} {v : V} {B : List Addr} (h : OwnAt K F H S σ o v B) (f : o.free = true) : OwnAt K F H S' σ' o v B := by
  cases o with
  | d x => exact h
  | pt xs => exact h
  | lst xs => exact h
  | mat rows => exact h
  | dct t kvs => exact h
  | fdct t kvs => exact h
  | src => cases f
  | bor i => cases f
theorem OwnAt.freeO {K : PySem.W.Frag} {F H : Hp} {o : O} {v : V} {B : List Addr} (h : OwnAt K F H [] [] o v B) : o.free = true := by
  cases o with
  | src => obtain ⟨_, sa, ca, e, _⟩ := h; cases e
  | bor i => have e := h.2; simp at e
  | d x => rfl
  | pt xs => rfl
  | lst xs => rfl
  | mat rows => rfl
  | dct t kvs => rfl
  | fdct t kvs => rfl
theorem ResAt.old {K : PySem.W.Frag} {F H : Hp} {x : PyData} {v : V} (s : Same F H) (h : Den K F v x) : ResAt K F H (.d x) v F H [] := ⟨Grow.refl s, ⟨rfl, h⟩, List.nodup_nil, fun _ z => nomatch z⟩
/-- a new object at p, that stays with whom asked for it -/
theorem Grow.new {F H : Hp} {p : Addr} {u : HO} (s : Same F H) (hp : H p = none) : Grow F H F (upd H p u) :=
  ⟨Same.refl _, fun b o e => by rw [upd_ne (ne_of_none e hp)]; exact e, fun b o e => by rw [upd_ne (ne_of_none (s b o e) hp)]; exact s b o e, fun _ h => .inl h⟩
/-- a new object at p, that is plain data -/
theorem Grow.newF {F H : Hp} {p : Addr} {u : HO} (s : Same F H) (hp : H p = none) : Grow F H (upd F p u) (upd H p u) := by
  have hf := s.free hp
  refine ⟨fun b o e => by rw [upd_ne (ne_of_none e hf)]; exact e, fun b o e => by rw [upd_ne (ne_of_none e hp)]; exact e, fun b o e => ?_, fun b h => ?_⟩
  · by_cases q : b = p
    · subst q; rw [upd_same] at e; rw [upd_same]; exact e
    · rw [upd_ne q] at e; rw [upd_ne q]; exact s b o e
  · by_cases q : b = p
    · subst q; exact .inr (.inl hp)
    · rw [upd_ne q] at h; exact .inl h
theorem ResAt.lst {K : PySem.W.Frag} {F H : Hp} {xs : List PyData} {vs : List V} {p : Addr} (s : Same F H) (hp : H p = none) (h : DenAll K F vs xs) : ResAt K F H (.lst xs) (.ref p) F (upd H p (.lst vs)) [p] :=
  ⟨Grow.new s hp, ⟨p, vs, rfl, rfl, upd_same, h⟩, by simp, fun b hb => by
    have e : b = p := by simpa using hb
    subst e
    exact ⟨hp, s.free hp, .inl ⟨vs, upd_same⟩⟩⟩
theorem ResAt.tup {K : PySem.W.Frag} {F H : Hp} {xs : List PyData} {vs : List V} {p : Addr} (s : Same F H) (hp : H p = none) (h : DenAll K F vs xs) : ResAt K F H (.d (.tuple xs)) (.ref p) (upd F p (.tup vs)) (upd H p (.tup vs)) [] :=
  ⟨Grow.newF s hp, ⟨rfl, .tup upd_same (h.mono (Grow.newF (u := .tup vs) s hp).fr)⟩, List.nodup_nil, fun _ z => nomatch z⟩
theorem ResAt.val {K : PySem.W.Frag} {F H : Hp} {x : PyData} {v : V} (s : Same F H) (h : ∀ F, Den K F v x) : ResAt K F H (.d x) v F H [] := ResAt.old s (h F)

/-- the end of an operation: the state stands, the result stands -/
theorem Post.res {K : PySem.W.Frag} {F H F2 H2 : Hp} {S : List Addr} {σ : L2.St} {A A2 : Nat → List Addr} {st2 : St} {W : Addr → Prop} (st : Step F H (Ow S A) F2 H2 W) (hW : ∀ b, Ow S A2 b → W b) (R : Rel K F2 H2 S σ st2 A2)
    {r : O} {v : V} {F' H' : Hp} {B : List Addr} (q : ResAt K F2 H2 r v F' H' B) : Post K F H S σ A r st2 v F' H' A2 B where
  step := by
    refine (st.weak hW).trans ?_
    exact ⟨q.grow.fr, fun b o h _ => q.grow.hp b o h, fun b h => let ⟨_, e⟩ := some_of_ne h; ne_none_of (q.grow.hp _ _ e), fun b h => h.elim .inl fun z => .inr (q.new b z).1, fun b h => (q.grow.nw b h).imp id .inr⟩
  rel := R.grow q.grow
  own := q.own.any q.own.freeO
  nod := q.nod
  new := fun b hb => ⟨(q.new b hb).2.1, fun z => by
    have hn := (q.new b hb).1
    rcases z with z | ⟨i, z⟩
    · have r := R.src
      cases hs : st2.src with
      | none => rw [hs] at r; have r : S = [] := r; rw [r] at z; cases z
      | some s =>
        rw [hs] at r
        obtain ⟨sa, ca, e, _, _, h1, h2⟩ := r
        rw [e] at z
        rcases List.mem_cons.mp z with z | z
        · rw [z, h1] at hn; cases hn
        · have z : b = ca := by simpa using z
          rw [z, h2] at hn; cases hn
    · exact (R.out i b z).2.2.ne hn, (q.new b hb).2.2⟩

/-! ### two expressions in a row -/
theorem OwnAt.past {K : PySem.W.Frag} {F H F' H' : Hp} {S : List Addr} {σ : L2.St} {W W' : Addr → Prop} {o : O} {v : V} {B : List Addr} (st : Step F H W F' H' W') (h : OwnAt K F H S σ o v B) (hB : ∀ b ∈ B, ¬ W b) : OwnAt K F' H' S σ o v B :=
  h.keep st.fr fun b hb u e => st.keep b u e (hB b hb)
theorem side_new {F H F' H' : Hp} {W W' : Addr → Prop} {B : List Addr} (st : Step F H W F' H' W') (h : ∀ b ∈ B, F b = none ∧ ¬ W b ∧ Mu H b) : ∀ b ∈ B, F' b = none ∧ ¬ W' b ∧ Mu H' b := fun b hb => by
  obtain ⟨h1, h2, h3⟩ := h b hb
  refine ⟨?_, fun z => ?_, h3.keep fun o e => st.keep b o e h2⟩
  · cases q : F' b with
    | none => rfl
    | some u =>
      rcases st.frz b (ne_none_of q) with z | z | z
      · exact absurd h1 z
      · exact absurd z h2
      · exact (h3.noFre z).elim
  · rcases st.own b z with z | z
    · exact h2 z
    · exact h3.ne z
/-- what stands after two -/
structure Post2 (K : PySem.W.Frag) (F H : Hp) (S : List Addr) (σ : L2.St) (A : Nat → List Addr) (x y : O) (st' : St) (v w : V) (F' H' : Hp) (A' : Nat → List Addr) (B C : List Addr) : Prop where
  step : Step F H (Ow S A) F' H' (fun b => Ow S A' b ∨ b ∈ B ∨ b ∈ C)
  rel : Rel K F' H' S σ st' A'
  ownx : OwnAt K F' H' S σ x v B
  owny : OwnAt K F' H' S σ y w C
  newB : ∀ b ∈ B, F' b = none ∧ ¬ Ow S A' b ∧ Mu H' b
  newC : ∀ b ∈ C, F' b = none ∧ ¬ Ow S A' b ∧ Mu H' b
  nodB : B.Nodup
  nodC : C.Nodup
  dis : ∀ b ∈ B, b ∉ C
theorem Post.two {K : PySem.W.Frag} {F H F1 H1 F2 H2 : Hp} {S : List Addr} {σ : L2.St} {A A1 A2 : Nat → List Addr} {x y : O} {s1 s2 : St} {v w : V} {B C : List Addr} (p : Post K F H S σ A x s1 v F1 H1 A1 B) (q : Post K F1 H1 S σ A1 y s2 w F2 H2 A2 C) :
    Post2 K F H S σ A x y s2 v w F2 H2 A2 B C := by
  have sn := side_new q.step fun b hb => p.new b hb
  refine ⟨?_, q.rel, p.own.past q.step fun b hb => (p.new b hb).2.1, q.own, fun b hb => ⟨(sn b hb).1, fun z => (sn b hb).2.1 (.inl z), (sn b hb).2.2⟩, q.new, p.nod, q.nod, fun b hb z => (sn b hb).2.1 (.inr z)⟩
  refine (p.step.trans (q.step.side (fun b => b ∈ B))).weak fun b h => ?_
  rcases h with h | h | h
  · exact .inl (.inl h)
  · exact .inr h
  · exact .inl (.inr h)
theorem two_read {Φ : Fs} {K : PySem.W.Frag} {e1 e2 : E} {σ : L2.St} {H F : Hp} {S : List Addr} {st s1 s2 : St} {A : Nat → List Addr} {x y : O} (R : Rel K F H S σ st A) (h1 : evE Φ e1 st = some (x, s1)) (h2 : evE Φ e2 s1 = some (y, s2)) {Q : V → V → Hp → Prop}
    (k : ∀ v w F' H' A' B C, Post2 K F H S σ A x y s2 v w F' H' A' B C → Q v w H') : tE Φ K e1 σ H fun v H1 => tE Φ K e2 σ H1 fun w H2 => Q v w H2 :=
  ⟨F, S, st, A, x, s1, R, h1, fun v F1 H1 A1 B p => ⟨F1, S, s1, A1, y, s2, p.rel, h2, fun w F2 H2 A2 C q => k v w F2 H2 A2 B C (p.two q)⟩⟩
theorem one_read {Φ : Fs} {K : PySem.W.Frag} {e1 : E} {σ : L2.St} {H F : Hp} {S : List Addr} {st s1 : St} {A : Nat → List Addr} {x : O} (R : Rel K F H S σ st A) (h1 : evE Φ e1 st = some (x, s1)) {Q : VK}
    (k : ∀ v F' H' A' B, Post K F H S σ A x s1 v F' H' A' B → Q v H') : tE Φ K e1 σ H Q := ⟨F, S, st, A, x, s1, R, h1, k⟩
theorem bindE {α β : Type} {m : Option α} {f : α → Option β} {b : β} (h : m.bind f = some b) : ∃ a, m = some a ∧ f a = some b := Option.bind_eq_some_iff.mp h
theorem mapE {α β : Type} {m : Option α} {f : α → β} {b : β} (h : m.map f = some b) : ∃ a, m = some a ∧ f a = b := Option.map_eq_some_iff.mp h
end Vm


set_option Elab.async false
set_option linter.all false
set_option maxRecDepth 100000
/-! Vm, part 4: the operations by values. -/
namespace Vm
open PySem PySem.Spec PyProof.Rows L2

/-! ### data read off the machine's heap -/
section
variable {X : Cx} {pins : List (Addr × Obj)} {σ : L2.St} {H F : Hp} {s : Shared}
mutual
theorem Den.reads (I : Inv X pins σ H s) : ∀ (d : PyData) (v : V) (u : Value), Den X.K H v d → RelV v u → ∃ as, Reads s.heap u d as ∧ (nolst d = true → sysModules ∉ as)
  | .none, _, _, h, r => by cases h; cases r; exact ⟨_, .none, fun _ z => nomatch z⟩
  | .bool b, _, _, h, r => by cases h; cases r; exact ⟨_, .bool b, fun _ z => nomatch z⟩
  | .int i, _, _, h, r => by cases h; obtain ⟨t, rfl⟩ := r; exact ⟨_, .int i t, fun _ z => nomatch z⟩
  | .str x, _, _, h, r => by cases h; obtain ⟨t, rfl⟩ := r; exact ⟨_, .str x t, fun _ z => nomatch z⟩
  | .list ds, _, _, h, r => by
    cases h with
    | lst hs ha =>
      cases r
      obtain ⟨its, rv, ⟨o, n, ho, hc, _, hd⟩, _⟩ := I.list (SqL.of hs)
      obtain ⟨as, hr, _⟩ := Den.readsAll I ds _ its ha rv
      exact ⟨_, .list ho hc hd hr, fun z => nomatch z⟩
  | .tuple ds, _, _, h, r => by
    cases h with
    | tup hs ha =>
      cases r
      obtain ⟨its, rv, ⟨o, ho, hc, n, hd⟩, _⟩ := I.tuple (SqT.of hs)
      obtain ⟨as, hr, q⟩ := Den.readsAll I ds _ its ha rv
      exact ⟨_, .tuple ho hc hd hr, fun z => q (by simpa [nolst] using z)⟩
    | ftup hs _ _ ha =>
      cases r
      obtain ⟨its, rv, ⟨o, ho, hc, n, hd⟩, _⟩ := I.tuple (TpAt.sq (K := X.K) (.inr ⟨_, hs, ‹_›⟩))
      obtain ⟨as, hr, q⟩ := Den.readsAll I ds _ its ha rv
      exact ⟨_, .tuple ho hc hd hr, fun z => q (by simpa [nolst] using z)⟩
  | .dict _, _, _, h, r => by
    cases h with
    | dk0 hs =>
      cases r
      obtain ⟨_, z, vs, rel, o, es, ep, e1, e2, e3, e4, e5, e6⟩ := I.hok _ _ hs
      cases rel
      have hes : es.toList = [] := by
        cases hl : es.toList with
        | nil => rfl
        | cons a b => rw [hl] at e5; cases e5
      refine ⟨_, .dict (as := []) (bs := []) e1 e2.1 e3 (by rw [hes]; exact .nil) (by rw [hes]; exact .nil), fun _ q => ?_⟩
      rcases List.mem_cons.mp q with q | q
      · rw [← q] at z
        simp at z
      · cases q
theorem Den.readsAll (I : Inv X pins σ H s) : ∀ (ds : List PyData) (vs : List V) (us : List Value), DenAll X.K H vs ds → Vals vs us → ∃ as, ReadsAll s.heap us ds as ∧ (nolsts ds = true → sysModules ∉ as)
  | [], _, _, h, r => by cases h; cases r; exact ⟨_, .nil, fun _ z => nomatch z⟩
  | d :: ds, _, _, h, r => by
    cases h with
    | cons h1 h2 =>
      cases r with
      | cons r1 r2 =>
        obtain ⟨as, q1, z1⟩ := Den.reads I d _ _ h1 r1
        obtain ⟨bs, q2, z2⟩ := Den.readsAll I ds _ _ h2 r2
        refine ⟨_, .cons q1 q2, fun z => ?_⟩
        have z : nolst d = true ∧ nolsts ds = true := by simpa [nolsts] using z
        rw [List.mem_append]
        exact fun q => q.elim (z1 z.1) (z2 z.2)
end

/-! ### views, taken apart -/
variable {K : PySem.W.Frag} {v : V}
theorem VwAt.den (e : Same F H) : ∀ {u : Vw} {x : PyData}, VwAt K F H v u → u.dat = some x → Den K H v x
  | .d y, x, h, q => by
    cases q
    rcases h with h | ⟨a, vs, xs, rfl, rfl, h1, h2⟩
    · exact h.mono e
    · exact .lst h1 (h2.mono e)
  | .h y, x, h, q => by cases q; exact h
  | .dct _ _, _, _, q => nomatch q
theorem VwAt.int {i : Int} (h : VwAt K F H v (.d (.int i))) : v = .int i := by
  rcases h with h | ⟨_, _, _, _, q, _⟩
  · cases h; rfl
  · cases q
theorem VwAt.bl {i : Bool} (h : VwAt K F H v (.d (.bool i))) : v = .bl i := by
  rcases h with h | ⟨_, _, _, _, q, _⟩
  · cases h; rfl
  · cases q
theorem VwAt.non (h : VwAt K F H v (.d .none)) : v = .non := by
  rcases h with h | ⟨_, _, _, _, q, _⟩
  · cases h; rfl
  · cases q
theorem VwAt.list (e : Same F H) {xs : List PyData} (h : VwAt K F H v (.d (.list xs))) : ∃ a vs, v = .ref a ∧ H a = some (.lst vs) ∧ DenAll K F vs xs := by
  rcases h with h | ⟨a, vs, ys, rfl, q, h1, h2⟩
  · cases h with
    | lst h1 h2 => exact ⟨_, _, rfl, e _ _ h1, h2⟩
  · cases q; exact ⟨_, _, rfl, h1, h2⟩
theorem VwAt.tup (e : Same F H) {xs : List PyData} (h : VwAt K F H v (.d (.tuple xs))) : ∃ a vs, v = .ref a ∧ Den K F (.ref a) (.tuple xs) ∧ TpAt H a vs ∧ DenAll K F vs xs := by
  rcases h with h | ⟨a, vs, ys, rfl, q, h1, h2⟩
  · cases h with
    | tup h1 h2 => exact ⟨_, _, rfl, .tup h1 h2, .inl (e _ _ h1), h2⟩
    | ftup h1 d n h2 => exact ⟨_, _, rfl, .ftup h1 d n h2, .inr ⟨_, e _ _ h1, d⟩, h2⟩
  · cases q
theorem VwAt.dtup (e : Same F H) {xs : List PyData} (h : VwAt K F H v (.d (.tuple xs))) : Den K F v (.tuple xs) := by
  rcases h with h | ⟨a, vs, ys, rfl, q, h1, h2⟩
  · exact h
  · cases q
end

/-! ### operators of two values -/
def rOp2 (K : PySem.W.Frag) (f : Vw → Vw → Option O) : R2 := fun x y H Q => ∃ F u w r, Same F H ∧ VwAt K F H x u ∧ VwAt K F H y w ∧ f u w = some r ∧ ∀ v F' H' B, ResAt K F H r v F' H' B → Q v H'
def rOpB (K : PySem.W.Frag) (f : Vw → Vw → Option Bool) : R2 := fun x y H Q => ∃ F u w b, Same F H ∧ VwAt K F H x u ∧ VwAt K F H y w ∧ f u w = some b ∧ Q (.bl b) H
section
variable {X : Cx}
theorem add_ok : OpR X (binaryOp .Add) (rOp2 X.K (binSem .add)) := by
  refine OpR.imp (op_add.or (op_cat.or op_catA)) fun x y H Q h => ?_
  obtain ⟨F, u, w, r, e, hu, hw, hr, k⟩ := h
  unfold binSem at hr
  split at hr
  all_goals try contradiction
  · cases hr
    obtain rfl := hu.int
    obtain rfl := hw.int
    exact .inl ⟨_, _, rfl, rfl, k _ _ _ _ (.val e fun F => .int _)⟩
  · rename_i xs ys _ _ _
    obtain ⟨a, vs, rfl, h1, h2⟩ := hu.list e
    obtain ⟨b, ws, rfl, h3, h4⟩ := hw.list e
    split at hr
    · cases hr
      rename_i hz
      exact .inr (.inl ⟨a, b, vs, ws, rfl, rfl, h1, h3, by rw [h2.length, h4.length]; exact hz, fun p hp => k _ _ _ _ (.lst e hp (h2.append h4))⟩)
    · cases hr
  · rename_i xs ys _ _ _
    obtain ⟨a, vs, rfl, f1, h1, h2⟩ := hu.tup e
    obtain ⟨b, ws, rfl, f3, h3, h4⟩ := hw.tup e
    split at hr
    · cases hr
      rename_i hz
      refine .inr (.inr ⟨a, b, vs, ws, rfl, rfl, h1.sq, h3.sq, by rw [h2.length, h4.length]; exact hz, fun z => ?_, fun _ z => ?_, fun _ _ p hp => k _ _ _ _ (.tup e hp (h2.append h4))⟩)
      · subst z
        cases h2
        exact k _ _ _ _ (.old e f3)
      · subst z
        cases h4
        rw [List.append_nil] at k
        exact k _ _ _ _ (.old e f1)
    · cases hr
theorem sub_ok : OpR X (binaryOp .Sub) (rOp2 X.K (binSem .sub)) := by
  refine OpR.imp op_sub fun x y H Q h => ?_
  obtain ⟨F, u, w, r, e, hu, hw, hr, k⟩ := h
  unfold binSem at hr
  split at hr
  all_goals try contradiction
  cases hr
  obtain rfl := hu.int
  obtain rfl := hw.int
  exact ⟨_, _, rfl, rfl, k _ _ _ _ (.val e fun F => .int _)⟩
theorem mul_ok : OpR X (binaryOp .Mult) (rOp2 X.K (binSem .mul)) := by
  refine OpR.imp ((op_mulX.or op_mul).or op_rep) fun x y H Q h => ?_
  obtain ⟨F, u, w, r, e, hu, hw, hr, k⟩ := h
  unfold binSem at hr
  split at hr
  all_goals try contradiction
  · obtain rfl := hu.int
    obtain rfl := hw.int
    split at hr
    · cases hr
      rename_i hz
      rcases hz with hz | hz | hz
      · exact .inl (.inr ⟨_, _, rfl, rfl, .inl (by omega), k _ _ _ _ (.val e fun F => .int _)⟩)
      · exact .inl (.inr ⟨_, _, rfl, rfl, .inr (by omega), k _ _ _ _ (.val e fun F => .int _)⟩)
      · exact .inl (.inl ⟨_, _, rfl, rfl, mulx_ok (a := _ + 1) (b := _ + 1) Nat.lt_log2_self Nat.lt_log2_self (by omega), k _ _ _ _ (.val e fun F => .int _)⟩)
    · cases hr
  · obtain ⟨a, vs, rfl, h1, h2⟩ := hu.list e
    obtain rfl := hw.int
    split at hr
    · cases hr
      rename_i hz
      obtain ⟨z1, z2, z3⟩ := hz
      refine .inr ⟨a, _, vs, rfl, rfl, h1, by omega, z2, by rw [h2.length]; exact z3, fun p hp => k _ _ _ _ (.lst e hp (h2.rep _))⟩
    · cases hr
theorem fdiv_ok : OpR X (binaryOp .FloorDiv) (rOp2 X.K (binSem .fdiv)) := by
  refine OpR.imp op_fdivW fun x y H Q h => ?_
  obtain ⟨F, u, w, r, e, hu, hw, hr, k⟩ := h
  unfold binSem at hr
  split at hr
  all_goals try contradiction
  obtain rfl := hu.int
  obtain rfl := hw.int
  split at hr
  · cases hr
    rename_i hz
    exact ⟨_, _, rfl, rfl, hz, k _ _ _ _ (.val e fun F => .int _)⟩
  · cases hr
theorem fmod_ok : OpR X (binaryOp .Mod) (rOp2 X.K (binSem .fmod)) := by
  refine OpR.imp op_mod fun x y H Q h => ?_
  obtain ⟨F, u, w, r, e, hu, hw, hr, k⟩ := h
  unfold binSem at hr
  split at hr
  all_goals try contradiction
  obtain rfl := hu.int
  obtain rfl := hw.int
  split at hr
  · cases hr
    rename_i hz
    exact ⟨_, _, rfl, rfl, hz, k _ _ _ _ (.val e fun F => .int _)⟩
  · cases hr
theorem pow_ok : OpR X (binaryOp .Pow) (rOp2 X.K (binSem .pow)) := by
  refine OpR.imp op_pow fun x y H Q h => ?_
  obtain ⟨F, u, w, r, e, hu, hw, hr, k⟩ := h
  unfold binSem at hr
  split at hr
  all_goals try contradiction
  obtain rfl := hu.int
  obtain rfl := hw.int
  split at hr
  · cases hr
    rename_i hz
    exact ⟨_, _, rfl, rfl, hz, k _ _ _ _ (.val e fun F => .int _)⟩
  · cases hr
def Bop.op : Bop → Operator
  | .add => .Add
  | .sub => .Sub
  | .mul => .Mult
  | .fdiv => .FloorDiv
  | .fmod => .Mod
  | .pow => .Pow
theorem bop_ok : ∀ op : Bop, OpR X (binaryOp op.op) (rOp2 X.K (binSem op))
  | .add => add_ok
  | .sub => sub_ok
  | .mul => mul_ok
  | .fdiv => fdiv_ok
  | .fmod => fmod_ok
  | .pow => pow_ok

/-! ### comparisons -/
theorem depth64 {A : Around} {a b : Nat} (h : a ≤ 64) (hu : A.units + 64 < cLine) : A.units + min a b < cLine := by
  have := Nat.min_le_left a b
  omega
theorem lens_of {pins : List (Addr × Obj)} {σ : L2.St} {H F : Hp} {s : Shared} {x y : V} {v u : Value} {p q : Vw} {ds es : List PyData} (I : Inv X pins σ H s) (e : Same F H) (hp : VwAt X.K F H x p) (hq : VwAt X.K F H y q) (e1 : p.dat = some (.list ds)) (e2 : q.dat = some (.list es)) (rx : RelV x v) (ry : RelV y u) :
    ∃ a b xs ys, v = .ref a ∧ u = .ref b ∧ s.heap.IsList a xs ∧ s.heap.IsList b ys ∧ xs.size = ds.length ∧ ys.size = es.length := by
  have one : ∀ {x : V} {v : Value} {p : Vw} {ds : List PyData}, VwAt X.K F H x p → p.dat = some (.list ds) → RelV x v → ∃ a xs, v = .ref a ∧ s.heap.IsList a xs ∧ xs.size = ds.length := by
    intro x v p ds hp e1 rx
    have h := hp.den e e1
    cases h with
    | lst h1 h2 =>
      cases rx
      obtain ⟨its, rv, pl, _⟩ := I.list (SqL.of h1)
      exact ⟨_, its.toArray, rfl, pl.isList, by rw [List.size_toArray, ← rv.length, h2.length]⟩
  obtain ⟨a, xs, rfl, l1, n1⟩ := one hp e1 rx
  obtain ⟨b, ys, rfl, l2, n2⟩ := one hq e2 ry
  exact ⟨a, b, xs, ys, rfl, rfl, l1, l2, n1, n2⟩
theorem eqv_ok (hu : X.A.units + 64 < cLine) : OpR X (compareOp .Eq) (rOpB X.K (cmpSem .eq)) := by
  intro pins s σ H x y v u Q I rx ry h
  obtain ⟨F, p, q, b, e, hp, hq, hb, k⟩ := h
  obtain ⟨d1, e1, hb⟩ := bindE (show (p.dat.bind fun x => q.dat.bind fun y => eqD x y) = some b from hb)
  obtain ⟨d2, e2, hb⟩ := bindE hb
  obtain ⟨as, r1, _⟩ := Den.reads I d1 x v (hp.den e e1) rx
  obtain ⟨bs, r2, _⟩ := Den.reads I d2 y u (hq.den e e2) ry
  unfold eqD at hb
  split at hb
  · rename_i z
    cases hb
    rw [Bool.and_eq_true] at z
    exact SeqAt.compareEq_shaped r1 r2 z.1 z.2 hu ⟨.bl _, H, I, rfl, k⟩
  · split at hb
    · split at hb
      · cases hb
      · rename_i hz
        cases hb
        obtain ⟨a, b', xs', ys', rfl, rfl, l1, l2, n1, n2⟩ := lens_of I e hp hq e1 e2 rx ry
        exact PySem.SeqAt.eq_list_lengthsAt l1 l2 (by rw [bne_iff_ne, n1, n2]; exact hz) (by omega) ⟨.bl _, H, I, rfl, k⟩
    · cases hb
theorem nev_ok (hu : X.A.units + 64 < cLine) : OpR X (compareOp .NotEq) (rOpB X.K (cmpSem .ne)) := by
  intro pins s σ H x y v u Q I rx ry h
  obtain ⟨F, p, q, b, e, hp, hq, hb, k⟩ := h
  obtain ⟨d1, e1, hb⟩ := bindE (show (p.dat.bind fun x => q.dat.bind fun y => (eqD x y).map (!·)) = some b from hb)
  obtain ⟨d2, e2, hb⟩ := bindE hb
  obtain ⟨b', e3, rfl⟩ := mapE hb
  obtain ⟨as, r1, _⟩ := Den.reads I d1 x v (hp.den e e1) rx
  obtain ⟨bs, r2, _⟩ := Den.reads I d2 y u (hq.den e e2) ry
  unfold eqD at e3
  split at e3
  · rename_i z
    cases e3
    rw [Bool.and_eq_true] at z
    exact SeqAt.compareNe_shaped r1 r2 z.1 z.2 hu ⟨.bl _, H, I, rfl, k⟩
  · split at e3
    · split at e3
      · cases e3
      · rename_i hz
        cases e3
        obtain ⟨a, b', xs', ys', rfl, rfl, l1, l2, n1, n2⟩ := lens_of I e hp hq e1 e2 rx ry
        exact PySem.SeqAt.RcNeAt.lists_lengths l1 l2 (by rw [bne_iff_ne, n1, n2]; exact hz) (by omega) _ _ _ _ ⟨.bl _, H, I, rfl, k⟩
    · cases e3
theorem cmpOk_of {x y : PyData} (h : cmpOk x y = true) : x ≠ .none ∧ PySem.W.alike x y = true ∧ x.depth ≤ 64 := by
  unfold cmpOk at h
  rw [Bool.and_eq_true, Bool.and_eq_true] at h
  obtain ⟨⟨h1, h2⟩, h3⟩ := h
  refine ⟨fun z => ?_, h2, of_decide_eq_true h3⟩
  subst z
  cases h1
theorem lt_ok (hu : X.A.units + 64 < cLine) : OpR X (compareOp .Lt) (rOpB X.K (cmpSem .lt)) := by
  intro pins s σ H x y v u Q I rx ry h
  obtain ⟨F, p, q, b, e, hp, hq, hb, k⟩ := h
  unfold cmpSem at hb
  split at hb
  all_goals try contradiction
  split at hb
  · rename_i z
    cases hb
    obtain ⟨z1, z2, z3⟩ := cmpOk_of z
    obtain ⟨as, r1, _⟩ := Den.reads I _ x v (hp.den e rfl) rx
    obtain ⟨bs, r2, _⟩ := Den.reads I _ y u (hq.den e rfl) ry
    exact PySem.W.lt_data r1 r2 z2 z1 (depth64 z3 hu) ⟨.bl _, H, I, rfl, k⟩
  · cases hb
theorem le_ok (hu : X.A.units + 64 < cLine) : OpR X (compareOp .LtE) (rOpB X.K (cmpSem .le)) := by
  intro pins s σ H x y v u Q I rx ry h
  obtain ⟨F, p, q, b, e, hp, hq, hb, k⟩ := h
  unfold cmpSem at hb
  split at hb
  all_goals try contradiction
  split at hb
  · rename_i z
    cases hb
    obtain ⟨z1, z2, z3⟩ := cmpOk_of z
    obtain ⟨as, r1, _⟩ := Den.reads I _ x v (hp.den e rfl) rx
    obtain ⟨bs, r2, _⟩ := Den.reads I _ y u (hq.den e rfl) ry
    exact PySem.W.le_data r1 r2 z2 z1 (depth64 z3 hu) ⟨.bl _, H, I, rfl, k⟩
  · cases hb
theorem gt_ok (hu : X.A.units + 64 < cLine) : OpR X (compareOp .Gt) (rOpB X.K (cmpSem .gt)) := by
  intro pins s σ H x y v u Q I rx ry h
  obtain ⟨F, p, q, b, e, hp, hq, hb, k⟩ := h
  unfold cmpSem at hb
  split at hb
  all_goals try contradiction
  split at hb
  · rename_i z
    cases hb
    obtain ⟨z1, z2, z3⟩ := cmpOk_of z
    obtain ⟨as, r1, _⟩ := Den.reads I _ x v (hp.den e rfl) rx
    obtain ⟨bs, r2, _⟩ := Den.reads I _ y u (hq.den e rfl) ry
    exact PySem.W.gt_data r1 r2 z2 z1 (depth64 z3 hu) ⟨.bl _, H, I, rfl, k⟩
  · cases hb
theorem ge_ok (hu : X.A.units + 64 < cLine) : OpR X (compareOp .GtE) (rOpB X.K (cmpSem .ge)) := by
  intro pins s σ H x y v u Q I rx ry h
  obtain ⟨F, p, q, b, e, hp, hq, hb, k⟩ := h
  unfold cmpSem at hb
  split at hb
  all_goals try contradiction
  split at hb
  · rename_i z
    cases hb
    obtain ⟨z1, z2, z3⟩ := cmpOk_of z
    obtain ⟨as, r1, _⟩ := Den.reads I _ x v (hp.den e rfl) rx
    obtain ⟨bs, r2, _⟩ := Den.reads I _ y u (hq.den e rfl) ry
    exact PySem.W.ge_data r1 r2 z2 z1 (depth64 z3 hu) ⟨.bl _, H, I, rfl, k⟩
  · cases hb
end
end Vm


set_option Elab.async false
set_option linter.all false
set_option maxRecDepth 100000
/-! Vm, part 5: membership, truth, subscripts, slices, dicts, by values. -/
namespace Vm
open PySem PySem.Spec PyProof.Rows L2

/-! ### keys -/
section
variable {K : PySem.W.Frag} {F H : Hp}
theorem keys_V : ∀ {xs : List PyData} {ks : List Key} {vs : List V}, toKeys xs = some ks → DenAll K F vs xs → vs = ks.map kV
  | [], ks, vs, e, h => by cases e; cases h; rfl
  | x :: xs, ks, vs, e, h => by
    cases h with
    | cons h1 h2 =>
      unfold toKeys at e
      cases e1 : toKey x with
      | none => rw [e1] at e; cases e
      | some k =>
        cases e2 : toKeys xs with
        | none => rw [e1, e2] at e; cases e
        | some ks' =>
          rw [e1, e2] at e
          cases e
          rw [keys_V e2 h2, List.map_cons]
          congr 1
          cases x <;> first | (cases e1; cases h1; rfl) | cases e1
theorem toDK_t {xs : List PyData} {k : DK} (e : toDK (.tuple xs) = some k) : xs.isEmpty = false ∧ ∃ ks, toKeys xs = some ks ∧ k = .t ks := by
  have e : (if xs.isEmpty then none else (toKeys xs).map DK.t) = some k := e
  split at e
  · cases e
  · rename_i h
    obtain ⟨ks, e1, e2⟩ := mapE e
    exact ⟨by simpa using h, ks, e1, e2.symm⟩
theorem noKey_no {xs : List PyData} {k : DK} (e : toDK (.tuple xs) = some k) (n : noKey xs = true) : False := by
  obtain ⟨h1, ks, h2, _⟩ := toDK_t e
  unfold noKey at n
  rw [h1, h2] at n
  cases n
theorem key_k {x : PyData} {q : Key} {v : V} (e : toDK x = some (.k q)) (h : Den K F v x) : v = kV q := by
  cases h with
  | int i => cases e; rfl
  | str s => cases e; rfl
  | tup h1 h2 =>
    obtain ⟨_, ks, _, e⟩ := toDK_t e
    cases e
  | ftup h1 d n h2 => exact (noKey_no e n).elim
  | non => cases e
  | bl b => cases e
  | lst h1 h2 => cases e
  | dk0 h => cases e
theorem key_t {x : PyData} {ks : List Key} {v : V} (e : toDK x = some (.t ks)) (h : Den K F v x) : ∃ b, v = .ref b ∧ F b = some (.tup (ks.map kV)) := by
  cases h with
  | int i => cases e
  | str s => cases e
  | tup h1 h2 =>
    obtain ⟨_, ks', e1, e⟩ := toDK_t e
    cases e
    exact ⟨_, rfl, by rw [← keys_V e1 h2]; exact h1⟩
  | ftup h1 d n h2 => exact (noKey_no e n).elim
  | non => cases e
  | bl b => cases e
  | lst h1 h2 => cases e
  | dk0 h => cases e
/-- what is found -/
def Fnd (K : PySem.W.Frag) (F : Hp) : Option V → Option PyData → Prop
  | none, none => True
  | some v, some d => Den K F v d
  | _, _ => False
theorem Paired.find {κ : Type} [DecidableEq κ] (f : κ → DK) (inj : ∀ a b, f a = f b → a = b) {l : List (κ × V)} {m : KVs} (r : Paired (fun p q => q.1 = f p.1 ∧ Den K F p.2 q.2) l m) (q : κ) : Fnd K F (valV l q) (kvGet m (f q)) := by
  induction r with
  | nil => trivial
  | @cons p p' ps qs h t ih =>
    obtain ⟨e1, e2⟩ := h
    unfold valV kvGet at ih ⊢
    rw [List.find?_cons, List.find?_cons]
    by_cases z : p.1 = q
    · rw [decide_eq_true z, decide_eq_true (by rw [e1, z])]
      exact e2
    · rw [decide_eq_false z, decide_eq_false (fun w => z (inj _ _ (e1.symm.trans w)))]
      exact ih
theorem Paired.anyK {κ : Type} [DecidableEq κ] (f : κ → DK) (inj : ∀ a b, f a = f b → a = b) {l : List (κ × V)} {m : KVs} (r : Paired (fun p q => q.1 = f p.1 ∧ Den K F p.2 q.2) l m) (q : κ) : (l.any fun p => decide (p.1 = q)) = m.any fun p => decide (p.1 = f q) := by
  induction r with
  | nil => rfl
  | @cons p p' ps qs h t ih =>
    rw [List.any_cons, List.any_cons, ih]
    congr 1
    by_cases z : p.1 = q
    · rw [decide_eq_true z, decide_eq_true (by rw [h.1, z])]
    · rw [decide_eq_false z, decide_eq_false (fun w => z (inj _ _ (h.1.symm.trans w)))]
theorem Paired.snoc {α β : Type} {R : α → β → Prop} {a : α} {b : β} (h : R a b) : ∀ {l : List α} {m : List β}, Paired R l m → Paired R (l ++ [a]) (m ++ [b])
  | _, _, .nil => .cons h .nil
  | _, _, .cons r t => .cons r (Paired.snoc h t)
theorem Paired.putK {κ : Type} [DecidableEq κ] (f : κ → DK) (inj : ∀ a b, f a = f b → a = b) {l : List (κ × V)} {m : KVs} (r : Paired (fun p q => q.1 = f p.1 ∧ Den K F p.2 q.2) l m) (q : κ) {v : V} {d : PyData} (hd : Den K F v d) :
    Paired (fun p q => q.1 = f p.1 ∧ Den K F p.2 q.2) (putK l q v) (kvPut m (f q) d) := by
  unfold L2.putK kvPut
  rw [Paired.anyK f inj r q]
  split
  · have go : ∀ {l : List (κ × V)} {m : KVs}, Paired (fun p q => q.1 = f p.1 ∧ Den K F p.2 q.2) l m → Paired (fun p q => q.1 = f p.1 ∧ Den K F p.2 q.2) (l.map fun kv => if kv.1 = q then (kv.1, v) else kv) (m.map fun p => if p.1 = f q then (p.1, d) else p) := by
      intro l m r
      induction r with
      | nil => exact .nil
      | @cons p p' ps qs h t ih =>
        rw [List.map_cons, List.map_cons]
        refine .cons ?_ ih
        by_cases z : p.1 = q
        · rw [if_pos z, if_pos (by rw [h.1, z])]
          exact ⟨h.1, hd⟩
        · rw [if_neg z, if_neg (fun w => z (inj _ _ (h.1.symm.trans w)))]
          exact h
    exact go r
  · exact Paired.snoc ⟨rfl, hd⟩ r
theorem Paired.len {α β : Type} {R : α → β → Prop} : ∀ {l : List α} {m : List β}, Paired R l m → l.length = m.length
  | _, _, .nil => rfl
  | _, _, .cons _ t => congrArg Nat.succ (Paired.len t)
theorem dk_inj : ∀ a b : Key, DK.k a = DK.k b → a = b := fun _ _ h => DK.k.inj h
theorem dt_inj : ∀ a b : List Key, DK.t a = DK.t b → a = b := fun _ _ h => DK.t.inj h
theorem VwAt.key {v : V} {x : PyData} {k : DK} (e : toDK x = some k) (h : VwAt K F H v (.d x)) : Den K F v x := by
  rcases h with h | ⟨a, vs, xs, rfl, rfl, h1, h2⟩
  · exact h
  · cases e
theorem dget_of {a : Addr} {t : Bool} {kvs : KVs} {x : PyData} {k : DK} {v : V} (e : Same F H) (d : DctAt K F H a t kvs) (hx : toDK x = some k) (ht : k.tk = t) (hv : Den K F v x) : ∃ o, DGet H a v o ∧ Fnd K F o (kvGet kvs k) := by
  cases k with
  | k q =>
    subst ht
    obtain ⟨hk, h1, h2⟩ := d
    obtain rfl := key_k hx hv
    exact ⟨_, .k h1, Paired.find DK.k dk_inj h2 q⟩
  | t ks =>
    subst ht
    obtain ⟨hk, h1, h2⟩ := d
    obtain ⟨b, rfl, hb⟩ := key_t hx hv
    exact ⟨_, .t h1 (e _ _ hb), Paired.find DK.t dt_inj h2 ks⟩
theorem DctAt.isD {a : Addr} {t : Bool} {kvs : KVs} (d : DctAt K F H a t kvs) : IsD H a := by
  cases t with
  | false => obtain ⟨hk, h1, _⟩ := d; exact .inl ⟨hk, .inl h1⟩
  | true => obtain ⟨hk, h1, _⟩ := d; exact .inr ⟨hk, .inl h1⟩
theorem Fnd.isSome {o : Option V} {p : Option PyData} (h : Fnd K F o p) : o.isSome = p.isSome := by
  cases o <;> cases p <;> first | rfl | exact h.elim
/-- a key put into a dict -/
theorem dput_of {a : Addr} {t : Bool} {kvs : KVs} {x : PyData} {k : DK} {v w : V} {y : PyData} (e : Same F H) (d : DctAt K F H a t kvs) (hx : toDK x = some k) (ht : k.tk = t) (hv : Den K F v x) (hw : Den K F w y) (hl : kvs.length < sizeLine) :
    ∃ u, DPut H a v w (upd H a u) ∧ DctAt K F (upd H a u) a t (kvPut kvs k y) := by
  cases k with
  | k q =>
    subst ht
    obtain ⟨hk, h1, h2⟩ := d
    obtain rfl := key_k hx hv
    exact ⟨_, .k h1 (by rw [Paired.len h2]; exact hl), _, upd_same, Paired.putK DK.k dk_inj h2 q hw⟩
  | t ks =>
    subst ht
    obtain ⟨hk, h1, h2⟩ := d
    obtain ⟨b, rfl, hb⟩ := key_t hx hv
    exact ⟨_, .t h1 (e _ _ hb) (by rw [Paired.len h2]; exact hl), _, upd_same, Paired.putK DK.t dt_inj h2 ks hw⟩
end

section
variable {X : Cx}
/-! ### is, in -/
theorem is_ok : OpR X (compareOp .Is) (rOpB X.K (cmpSem .is)) := by
  refine OpR.imp (op_isN.or op_isBl) fun x y H Q h => ?_
  obtain ⟨F, u, w, b, e, hu, hw, hb, k⟩ := h
  have hb : isSem u w = some b := hb
  unfold isSem at hb
  split at hb
  all_goals try contradiction
  · obtain rfl := hw.non
    refine .inl ⟨rfl, ?_⟩
    split at hb
    all_goals try contradiction
    all_goals cases hb
    · obtain rfl := hu.non; exact k
    · obtain rfl := hu.bl; exact k
    · obtain rfl := hu.int; exact k
    · obtain ⟨a, vs, rfl, _⟩ := hu.tup e; exact k
    · obtain ⟨a, vs, rfl, _⟩ := hu.list e; exact k
  · obtain rfl := hu.bl
    obtain rfl := hw.bl
    cases hb
    exact .inr ⟨_, _, rfl, rfl, by rw [← Bool.beq_eq_decide_eq]; exact k⟩
theorem isnot_ok : OpR X (compareOp .IsNot) (rOpB X.K (cmpSem .isnot)) := by
  refine OpR.imp (op_notN.or op_notBl) fun x y H Q h => ?_
  obtain ⟨F, u, w, b, e, hu, hw, hb, k⟩ := h
  obtain ⟨b', hb', rfl⟩ := mapE (show (isSem u w).map (!·) = some b from hb)
  clear hb
  have hb := hb'
  clear hb'
  unfold isSem at hb
  split at hb
  all_goals try contradiction
  · obtain rfl := hw.non
    refine .inl ⟨rfl, ?_⟩
    split at hb
    all_goals try contradiction
    all_goals cases hb
    · obtain rfl := hu.non; exact k
    · obtain rfl := hu.bl; exact k
    · obtain rfl := hu.int; exact k
    · obtain ⟨a, vs, rfl, _⟩ := hu.tup e; exact k
    · obtain ⟨a, vs, rfl, _⟩ := hu.list e; exact k
  · obtain rfl := hu.bl
    obtain rfl := hw.bl
    cases hb
    exact .inr ⟨_, _, rfl, rfl, by rw [← Bool.beq_eq_decide_eq]; exact k⟩
theorem in_ok (hu : X.A.units + 66 < cLine) : OpR X (compareOp .In) (rOpB X.K (cmpSem .isin)) := by
  intro pins s σ H x y v u Q I rx ry h
  obtain ⟨F, p, q, b, e, hp, hq, hb, k⟩ := h
  have hb : inSem p q = some b := hb
  unfold inSem at hb
  split at hb
  all_goals try contradiction
  · obtain ⟨d, e1, hb⟩ := bindE hb
    split at hb
    · rename_i z
      cases hb
      rw [Bool.and_eq_true] at z
      obtain ⟨as, r1, _⟩ := Den.reads I d x v (hp.den e e1) rx
      obtain ⟨bs, r2, _⟩ := Den.reads I _ y u (hq.den e rfl) ry
      exact SeqAt.in_list_reads r2 r1 (SeqAt.canLay_of_shaped z.2) (SeqAt.canLay_of_shaped z.1) (room_in_shaped z.1 (by omega)) ⟨.bl _, H, I, rfl, k⟩
    · cases hb
  · obtain ⟨d, e1, hb⟩ := bindE hb
    split at hb
    · rename_i z
      cases hb
      rw [Bool.and_eq_true] at z
      obtain ⟨as, r1, _⟩ := Den.reads I d x v (hp.den e e1) rx
      obtain ⟨bs, r2, _⟩ := Den.reads I _ y u (hq.den e rfl) ry
      exact SeqAt.in_list_reads r2 r1 (SeqAt.canLay_of_shaped z.2) (SeqAt.canLay_of_shaped z.1) (room_in_shaped z.1 (by omega)) ⟨.bl _, H, I, rfl, k⟩
    · cases hb
  · obtain ⟨d, e1, hb⟩ := bindE hb
    split at hb
    · rename_i z
      cases hb
      rw [Bool.and_eq_true] at z
      obtain ⟨as, r1, _⟩ := Den.reads I d x v (hp.den e e1) rx
      obtain ⟨bs, r2, _⟩ := Den.reads I _ y u (hq.den e rfl) ry
      exact SeqAt.in_tuple_reads r2 r1 (SeqAt.canLay_of_shaped z.2) (SeqAt.canLay_of_shaped z.1) (room_in_shaped z.1 (by omega)) ⟨.bl _, H, I, rfl, k⟩
    · cases hb
  · obtain ⟨q', e1, hb⟩ := bindE hb
    split at hb
    · rename_i z
      cases hb
      obtain ⟨a, rfl, hd⟩ := hq
      obtain ⟨o, g, f⟩ := dget_of e hd e1 z (hp.key e1)
      cases ry
      rw [← f.isSome] at k
      exact d_in (by omega) I g rx fun s' I' => ⟨.bl _, H, I', rfl, k⟩
    · cases hb
theorem notin_ok (hu : X.A.units + 66 < cLine) : OpR X (compareOp .NotIn) (rOpB X.K (cmpSem .notin)) := by
  intro pins s σ H x y v u Q I rx ry h
  obtain ⟨F, p, q, b, e, hp, hq, hb, k⟩ := h
  obtain ⟨b', hb', rfl⟩ := mapE (show (inSem p q).map (!·) = some b from hb)
  clear hb
  have hb := hb'
  clear hb'
  unfold inSem at hb
  split at hb
  all_goals try contradiction
  · obtain ⟨d, e1, hb⟩ := bindE hb
    split at hb
    · rename_i z
      cases hb
      rw [Bool.and_eq_true] at z
      obtain ⟨as, r1, _⟩ := Den.reads I d x v (hp.den e e1) rx
      obtain ⟨bs, r2, _⟩ := Den.reads I _ y u (hq.den e rfl) ry
      exact SeqAt.notIn_list_reads r2 r1 (SeqAt.canLay_of_shaped z.2) (SeqAt.canLay_of_shaped z.1) (room_in_shaped z.1 (by omega)) ⟨.bl _, H, I, rfl, k⟩
    · cases hb
  · obtain ⟨d, e1, hb⟩ := bindE hb
    split at hb
    · rename_i z
      cases hb
      rw [Bool.and_eq_true] at z
      obtain ⟨as, r1, _⟩ := Den.reads I d x v (hp.den e e1) rx
      obtain ⟨bs, r2, _⟩ := Den.reads I _ y u (hq.den e rfl) ry
      exact SeqAt.notIn_list_reads r2 r1 (SeqAt.canLay_of_shaped z.2) (SeqAt.canLay_of_shaped z.1) (room_in_shaped z.1 (by omega)) ⟨.bl _, H, I, rfl, k⟩
    · cases hb
  · obtain ⟨d, e1, hb⟩ := bindE hb
    split at hb
    · rename_i z
      cases hb
      rw [Bool.and_eq_true] at z
      obtain ⟨as, r1, _⟩ := Den.reads I d x v (hp.den e e1) rx
      obtain ⟨bs, r2, _⟩ := Den.reads I _ y u (hq.den e rfl) ry
      exact SeqAt.notIn_tuple_reads r2 r1 (SeqAt.canLay_of_shaped z.2) (SeqAt.canLay_of_shaped z.1) (room_in_shaped z.1 (by omega)) ⟨.bl _, H, I, rfl, k⟩
    · cases hb
  · obtain ⟨q', e1, hb⟩ := bindE hb
    split at hb
    · rename_i z
      cases hb
      obtain ⟨a, rfl, hd⟩ := hq
      obtain ⟨o, g, f⟩ := dget_of e hd e1 z (hp.key e1)
      cases ry
      rw [← f.isSome] at k
      exact d_notIn (by omega) I g rx fun s' I' => ⟨.bl _, H, I', rfl, k⟩
    · cases hb
def Cop.op : Cop → CmpOp
  | .eq => .Eq
  | .ne => .NotEq
  | .lt => .Lt
  | .le => .LtE
  | .gt => .Gt
  | .ge => .GtE
  | .isin => .In
  | .notin => .NotIn
  | .is => .Is
  | .isnot => .IsNot
theorem cop_ok (hu : X.A.units + 66 < cLine) : ∀ op : Cop, OpR X (compareOp op.op) (rOpB X.K (cmpSem op))
  | .eq => eqv_ok (by omega)
  | .ne => nev_ok (by omega)
  | .lt => lt_ok (by omega)
  | .le => le_ok (by omega)
  | .gt => gt_ok (by omega)
  | .ge => ge_ok (by omega)
  | .isin => in_ok hu
  | .notin => notin_ok hu
  | .is => is_ok
  | .isnot => isnot_ok

/-! ### truth -/
theorem isEmpty_den {K : PySem.W.Frag} {F : Hp} {vs : List V} {xs : List PyData} (h : DenAll K F vs xs) : vs.isEmpty = xs.isEmpty := by
  cases h <;> rfl
theorem tru_of {K : PySem.W.Frag} {F H : Hp} {x : V} {u : Vw} {b : Bool} (e : Same F H) (hu : VwAt K F H x u) (hb : truSem u = some b) : TruV K x H b := by
  unfold truSem at hb
  split at hb
  all_goals try contradiction
  all_goals cases hb
  · obtain rfl := hu.non; rfl
  · obtain rfl := hu.bl; rfl
  · obtain rfl := hu.int; rfl
  · obtain ⟨a, vs, rfl, h1, h2⟩ := hu.list e
    exact .inl ⟨vs, .of h1, by rw [isEmpty_den h2]⟩
  · have h : Den K H x (.list _) := hu
    cases h with
    | lst h1 h2 => exact .inl ⟨_, .of h1, by rw [isEmpty_den h2]⟩
  · obtain ⟨a, vs, rfl, _, h1, h2⟩ := hu.tup e
    exact .inr (.inl ⟨vs, h1.sq, by rw [isEmpty_den h2]⟩)

/-! ### subscripts, slices -/
theorem atI_den {K : PySem.W.Frag} {F : Hp} {vs : List V} {xs : List PyData} (h : DenAll K F vs xs) {i : Int} {d : PyData} (e : atI xs i = some d) : ∃ v, atI vs i = some v ∧ Den K F v d := by
  unfold atI at e ⊢
  rw [h.length]
  obtain ⟨j, e1, e2⟩ := bindE e
  obtain ⟨v, e3, e4⟩ := h.get e2
  exact ⟨v, by rw [e1]; exact e3, e4⟩
/-- the reading of a[i] -/
theorem idx_of {K : PySem.W.Frag} {F H : Hp} {x y : V} {u w : Vw} {r : O} {Q : VK} (e : Same F H) (hu : VwAt K F H x u) (hw : VwAt K F H y w) (hr : idxSem u w = some r) (k : ∀ v F' H' B, ResAt K F H r v F' H' B → Q v H') :
    rIx K x y H Q ∨ ∃ a v, x = .ref a ∧ DGet H a y (some v) ∧ Q v H := by
  unfold idxSem at hr
  split at hr
  all_goals try contradiction
  · obtain ⟨d, e1, rfl⟩ := mapE hr
    obtain ⟨a, vs, rfl, h1, h2⟩ := hu.list e
    obtain rfl := hw.int
    obtain ⟨v, e2, e3⟩ := atI_den h2 e1
    exact .inl (.inl ⟨a, vs, _, v, rfl, rfl, .of h1, e2, k _ _ _ _ (.old e e3)⟩)
  · obtain ⟨d, e1, rfl⟩ := mapE hr
    obtain ⟨a, vs, rfl, _, h1, h2⟩ := hu.tup e
    obtain rfl := hw.int
    obtain ⟨v, e2, e3⟩ := atI_den h2 e1
    exact .inl (.inr (.inl ⟨a, vs, _, v, rfl, rfl, h1.sq, e2, k _ _ _ _ (.old e e3)⟩))
  · obtain ⟨q, e1, hr⟩ := bindE hr
    split at hr
    · rename_i z
      obtain ⟨d, e2, rfl⟩ := mapE hr
      obtain ⟨a, rfl, hd⟩ := hu
      obtain ⟨o, g, f⟩ := dget_of e hd e1 z (hw.key e1)
      rw [e2] at f
      cases o with
      | none => exact f.elim
      | some v => exact .inr ⟨a, v, rfl, g, k _ _ _ _ (.old e f)⟩
    · cases hr
theorem cut_den {K : PySem.W.Frag} {F : Hp} {vs : List V} {xs : List PyData} (h : DenAll K F vs xs) (lo hi : Option Int) : DenAll K F (cutV vs lo hi) (cutD xs lo hi) := by
  unfold cutV cutD
  rw [h.length]
  exact (h.drop _).take _
theorem slc_ok : SlR X (fun x lo hi H Q => ∃ F u r, Same F H ∧ VwAt X.K F H x u ∧ slcSem u lo hi = some r ∧ ∀ v F' H' B, ResAt X.K F H r v F' H' B → Q v H') := by
  intro pins s σ H x v vl vu lo hi sl Q I rx hs pl pu h
  obtain ⟨F, u, r, e, hu, hr, k⟩ := h
  refine (sl_list.or sl_tupA) pins s σ H x v vl vu lo hi sl Q I rx hs pl pu ?_
  unfold slcSem at hr
  split at hr
  all_goals try contradiction
  all_goals cases hr
  · obtain ⟨a, vs, rfl, h1, h2⟩ := hu.list e
    exact .inl ⟨a, vs, rfl, .of h1, fun p hp => k _ _ _ _ (.lst e hp (cut_den h2 lo hi))⟩
  · rename_i xs
    obtain ⟨a, vs, rfl, f1, h1, h2⟩ := hu.tup e
    refine .inr ⟨a, vs, rfl, h1.sq, fun z => ?_, fun _ p hp => k _ _ _ _ (.tup e hp (cut_den h2 lo hi))⟩
    have q : cutD xs lo hi = xs := by
      unfold cutD
      rw [← h2.length, z.1, z.2, List.drop_zero, h2.length, Nat.sub_zero, List.take_length]
    rw [q] at k
    exact k _ _ _ _ (.old e f1)
end
end Vm


set_option Elab.async false
set_option linter.all false
set_option maxRecDepth 100000
/-! Vm, part 6: built-in functions by values. -/
namespace Vm
open PySem PySem.Spec PyProof.Rows L2

abbrev VwsAt (K : PySem.W.Frag) (F H : Hp) : List V → List Vw → Prop := Paired (VwAt K F H)
def rP (K : PySem.W.Frag) (p : Prim) : List V → Hp → VK → Prop := fun xs H Q => ∃ F us r, Same F H ∧ VwsAt K F H xs us ∧ primSem p us = some r ∧ ∀ v F' H' B, ResAt K F H r v F' H' B → Q v H'
theorem CallR.imp {X : Cx} {f : Value} {r r' : List V → Hp → VK → Prop} (h : CallR X f r) (i : ∀ xs H Q, r' xs H Q → r xs H Q) : CallR X f r' := fun pins s σ H xs us Q I rv q => h pins s σ H xs us Q I rv (i xs H Q q)
theorem VwsAt.one {K : PySem.W.Frag} {F H : Hp} {xs : List V} {u : Vw} (h : VwsAt K F H xs [u]) : ∃ x, xs = [x] ∧ VwAt K F H x u := by
  cases h with
  | cons h t => cases t; exact ⟨_, rfl, h⟩
theorem VwsAt.two {K : PySem.W.Frag} {F H : Hp} {xs : List V} {u w : Vw} (h : VwsAt K F H xs [u, w]) : ∃ x y, xs = [x, y] ∧ VwAt K F H x u ∧ VwAt K F H y w := by
  cases h with
  | cons h t =>
    cases t with
    | cons h' t => cases t; exact ⟨_, _, rfl, h, h'⟩

theorem bools_V {K : PySem.W.Frag} {F : Hp} : ∀ {xs : List PyData} {bs : List Bool} {vs : List V}, boolsOf xs = some bs → DenAll K F vs xs → vs = bs.map V.bl
  | [], _, _, e, h => by cases e; cases h; rfl
  | .bool b :: xs, bs, _, e, h => by
    obtain ⟨bs', e1, rfl⟩ := mapE (show (boolsOf xs).map (b :: ·) = some bs from e)
    cases h with
    | cons h1 h2 => cases h1; rw [bools_V e1 h2]; rfl
  | .none :: _, _, _, e, _ => by cases e
  | .int _ :: _, _, _, e, _ => by cases e
  | .str _ :: _, _, _, e, _ => by cases e
  | .list _ :: _, _, _, e, _ => by cases e
  | .tuple _ :: _, _, _, e, _ => by cases e
  | .dict _ :: _, _, _, e, _ => by cases e
theorem ints_V {K : PySem.W.Frag} {F : Hp} : ∀ {xs : List PyData} {bs : List Int} {vs : List V}, intsOf xs = some bs → DenAll K F vs xs → vs = bs.map V.int
  | [], _, _, e, h => by cases e; cases h; rfl
  | .int b :: xs, bs, _, e, h => by
    obtain ⟨bs', e1, rfl⟩ := mapE (show (intsOf xs).map (b :: ·) = some bs from e)
    cases h with
    | cons h1 h2 => cases h1; rw [ints_V e1 h2]; rfl
  | .none :: _, _, _, e, _ => by cases e
  | .bool _ :: _, _, _, e, _ => by cases e
  | .str _ :: _, _, _, e, _ => by cases e
  | .list _ :: _, _, _, e, _ => by cases e
  | .tuple _ :: _, _, _, e, _ => by cases e
  | .dict _ :: _, _, _, e, _ => by cases e
theorem max_is {ns : List Int} {m n : Int} (h : ns.max? = some m) (h1 : n ∈ ns) (h2 : ∀ y ∈ ns, y ≤ n) : n = m := by
  have a := List.max?_eq_some_iff.mp h
  exact Int.le_antisymm (a.2 n h1) (h2 m a.1)
theorem min_is {ns : List Int} {m n : Int} (h : ns.min? = some m) (h1 : n ∈ ns) (h2 : ∀ y ∈ ns, n ≤ y) : n = m := by
  have a := List.min?_eq_some_iff.mp h
  exact Int.le_antisymm (h2 m a.1) (a.2 n h1)

section
variable {X : Cx}
theorem len_dK : CallR X (.builtin "len") (fun xs H Q => ∃ (a : Addr) (kvs : List (Key × V)), xs = [.ref a] ∧ H a = some (.dK kvs) ∧ Q (.int (kvs.length : Nat)) H) := by
  intro pins s σ H xs us Q I r h
  obtain ⟨a, kvs, rfl, h1, q⟩ := h
  obtain ⟨u, rfl, rx⟩ := vals1 r
  cases rx
  exact d_len I (.inl h1) fun t s' I' => ⟨.int _, H, I', ⟨t, rfl⟩, q⟩
theorem len_ok : CallR X (.builtin "len") (rP X.K .len) := by
  refine CallR.imp (call_len_seq.or (len_dK.or call_len_dT)) fun xs H Q h => ?_
  obtain ⟨F, us, r, e, hu, hr, k⟩ := h
  unfold primSem at hr
  split at hr
  all_goals try contradiction
  all_goals cases hr
  · obtain ⟨x, rfl, hx⟩ := hu.one
    obtain ⟨a, vs, rfl, h1, h2⟩ := hx.list e
    refine .inl ⟨a, vs, rfl, .inl (.of h1), ?_⟩
    rw [h2.length]
    exact k _ _ _ _ (.val e fun F => .int _)
  · obtain ⟨x, rfl, hx⟩ := hu.one
    have h : Den X.K H x (.list _) := hx
    cases h with
    | lst h1 h2 =>
      refine .inl ⟨_, _, rfl, .inl (.of h1), ?_⟩
      rw [h2.length]
      exact k _ _ _ _ (.val e fun F => .int _)
  · obtain ⟨x, rfl, hx⟩ := hu.one
    obtain ⟨a, vs, rfl, _, h1, h2⟩ := hx.tup e
    refine .inl ⟨a, vs, rfl, .inr h1.sq, ?_⟩
    rw [h2.length]
    exact k _ _ _ _ (.val e fun F => .int _)
  · obtain ⟨x, rfl, hx⟩ := hu.one
    obtain ⟨a, rfl, hd⟩ := hx
    rename_i t kvs _
    cases t with
    | false =>
      obtain ⟨hk, h1, h2⟩ := hd
      refine .inr (.inl ⟨a, hk, rfl, h1, ?_⟩)
      rw [Paired.len h2]
      exact k _ _ _ _ (.val e fun F => .int _)
    | true =>
      obtain ⟨hk, h1, h2⟩ := hd
      refine .inr (.inr ⟨a, hk, rfl, h1, ?_⟩)
      rw [Paired.len h2]
      exact k _ _ _ _ (.val e fun F => .int _)
theorem abs_ok : CallR X (.builtin "abs") (rP X.K .abs) := by
  refine CallR.imp call_abs fun xs H Q h => ?_
  obtain ⟨F, us, r, e, hu, hr, k⟩ := h
  unfold primSem at hr
  split at hr
  all_goals try contradiction
  cases hr
  obtain ⟨x, rfl, hx⟩ := hu.one
  obtain rfl := hx.int
  exact ⟨_, rfl, k _ _ _ _ (.val e fun F => .int _)⟩
theorem int_ok : CallR X (.type "int") (rP X.K .int) := by
  refine CallR.imp call_int1 fun xs H Q h => ?_
  obtain ⟨F, us, r, e, hu, hr, k⟩ := h
  unfold primSem at hr
  split at hr
  all_goals try contradiction
  all_goals cases hr
  · obtain ⟨x, rfl, hx⟩ := hu.one
    obtain rfl := hx.int
    exact .inl ⟨_, rfl, k _ _ _ _ (.val e fun F => .int _)⟩
  · obtain ⟨x, rfl, hx⟩ := hu.one
    obtain rfl := hx.bl
    exact .inr ⟨_, rfl, k _ _ _ _ (.val e fun F => .int _)⟩
theorem all_ok (hc : X.calm = true) : CallR X (.builtin "all") (rP X.K .all) := by
  refine CallR.imp (cr_all hc) fun xs H Q h => ?_
  obtain ⟨F, us, r, e, hu, hr, k⟩ := h
  unfold primSem at hr
  split at hr
  all_goals try contradiction
  obtain ⟨bs, e1, rfl⟩ := mapE hr
  obtain ⟨x, rfl, hx⟩ := hu.one
  obtain ⟨a, vs, rfl, h1, h2⟩ := hx.list e
  exact ⟨a, bs, rfl, .of (by rw [← bools_V e1 h2]; exact h1), k _ _ _ _ (.val e fun F => .bl _)⟩
theorem any_ok (hc : X.calm = true) : CallR X (.builtin "any") (rP X.K .any) := by
  refine CallR.imp (cr_any hc) fun xs H Q h => ?_
  obtain ⟨F, us, r, e, hu, hr, k⟩ := h
  unfold primSem at hr
  split at hr
  all_goals try contradiction
  obtain ⟨bs, e1, rfl⟩ := mapE hr
  obtain ⟨x, rfl, hx⟩ := hu.one
  obtain ⟨a, vs, rfl, h1, h2⟩ := hx.list e
  exact ⟨a, bs, rfl, .of (by rw [← bools_V e1 h2]; exact h1), k _ _ _ _ (.val e fun F => .bl _)⟩
theorem sum_ok (hc : X.calm = true) : CallR X (.builtin "sum") (rP X.K .sum) := by
  refine CallR.imp (cr_sum hc) fun xs H Q h => ?_
  obtain ⟨F, us, r, e, hu, hr, k⟩ := h
  unfold primSem at hr
  split at hr
  all_goals try contradiction
  obtain ⟨bs, e1, rfl⟩ := mapE hr
  obtain ⟨x, rfl, hx⟩ := hu.one
  obtain ⟨a, vs, rfl, h1, h2⟩ := hx.list e
  exact ⟨a, bs, rfl, .of (by rw [← ints_V e1 h2]; exact h1), k _ _ _ _ (.val e fun F => .int _)⟩
theorem max_ok (hc : X.calm = true) : CallR X (.builtin "max") (rP X.K .max) := by
  refine CallR.imp (cr_max hc) fun xs H Q h => ?_
  obtain ⟨F, us, r, e, hu, hr, k⟩ := h
  unfold primSem at hr
  split at hr
  all_goals try contradiction
  obtain ⟨bs, e1, hr⟩ := bindE hr
  obtain ⟨m, e2, rfl⟩ := mapE hr
  obtain ⟨x, rfl, hx⟩ := hu.one
  obtain ⟨a, vs, rfl, h1, h2⟩ := hx.list e
  refine ⟨a, bs, rfl, .of (by rw [← ints_V e1 h2]; exact h1), ?_, fun n h3 h4 => ?_⟩
  · cases bs with
    | nil => cases e2
    | cons a b => exact Nat.succ_pos _
  · rw [max_is e2 h3 h4]
    exact k _ _ _ _ (.val e fun F => .int _)
theorem min_ok (hc : X.calm = true) : CallR X (.builtin "min") (rP X.K .min) := by
  refine CallR.imp (cr_min hc) fun xs H Q h => ?_
  obtain ⟨F, us, r, e, hu, hr, k⟩ := h
  unfold primSem at hr
  split at hr
  all_goals try contradiction
  obtain ⟨bs, e1, hr⟩ := bindE hr
  obtain ⟨m, e2, rfl⟩ := mapE hr
  obtain ⟨x, rfl, hx⟩ := hu.one
  obtain ⟨a, vs, rfl, h1, h2⟩ := hx.list e
  refine ⟨a, bs, rfl, .of (by rw [← ints_V e1 h2]; exact h1), ?_, fun n h3 h4 => ?_⟩
  · cases bs with
    | nil => cases e2
    | cons a b => exact Nat.succ_pos _
  · rw [min_is e2 h3 h4]
    exact k _ _ _ _ (.val e fun F => .int _)
theorem max2_ok (hc : X.calm = true) : CallR X (.builtin "max") (rP X.K .max2) := by
  refine CallR.imp (call_max2 hc) fun xs H Q h => ?_
  obtain ⟨F, us, r, e, hu, hr, k⟩ := h
  unfold primSem at hr
  split at hr
  all_goals try contradiction
  cases hr
  obtain ⟨x, y, rfl, hx, hy⟩ := hu.two
  obtain rfl := hx.int
  obtain rfl := hy.int
  exact ⟨_, _, rfl, k _ _ _ _ (.val e fun F => .int _)⟩
theorem min2_ok (hc : X.calm = true) : CallR X (.builtin "min") (rP X.K .min2) := by
  refine CallR.imp (call_min2 hc) fun xs H Q h => ?_
  obtain ⟨F, us, r, e, hu, hr, k⟩ := h
  unfold primSem at hr
  split at hr
  all_goals try contradiction
  cases hr
  obtain ⟨x, y, rfl, hx, hy⟩ := hu.two
  obtain rfl := hx.int
  obtain rfl := hy.int
  exact ⟨_, _, rfl, k _ _ _ _ (.val e fun F => .int _)⟩
theorem ResAt.ptup {K : PySem.W.Frag} {F H : Hp} {xs : List PyData} {vs : List V} {p : Addr} {o : Obj} (s : Same F H) (hp : H p = none) (hd : o.dict = none) (hn : noKey xs = true) (h : DenAll K F vs xs) : ResAt K F H (.pt xs) (.ref p) (upd F p (.frz o (.tup vs))) (upd H p (.frz o (.tup vs))) [] :=
  ⟨Grow.newF s hp, ⟨rfl, p, vs, o, rfl, upd_same, hd, hn, h.mono (Grow.newF (u := .frz o (.tup vs)) s hp).fr⟩, List.nodup_nil, fun _ z => nomatch z⟩
/-- tuple of a list, the new object known -/
theorem call_tuple_frz : CallR X (.type "tuple") (fun xs H Q => ∃ p ys, xs = [.ref p] ∧ SqL X.K H p ys ∧ ∀ l o, o.dict = none → H l = none → Q (.ref l) (upd H l (.frz o (.tup ys)))) := by
  intro pins s σ H xs us Q I r h
  obtain ⟨p, ys, rfl, hq, q⟩ := h
  obtain ⟨u, rfl, rx⟩ := vals1 r
  cases rx
  obtain ⟨its, r', pl, hz⟩ := I.list hq
  have hlen := r'.length
  refine call_tuple_list pl.isList (fun h' kp => ?_) (by simp only [List.size_toArray] <;> omega)
  have I1 : Inv X pins σ H { s with heap := h' } := I.kept (t' := s.toks) kp
  have I2 : Inv X pins σ (upd H h'.objs.size (.frz { cls := .type "tuple", data := .seq its.toArray } (.tup ys))) { s with heap := h'.push { cls := .type "tuple", data := .seq its.toArray } } :=
    I1.laid (t' := s.toks) (fun b o e => Heap.get?_push_of_some _ e) (Nat.le_refl _) (show ObjOk X.prog X.w _ _ _ (.frz _ (.tup ys)) from ⟨Heap.get?_push_size _ rfl, hz, its, r', IsTup.new _ _⟩)
  exact ⟨.ref h'.objs.size, _, I2, rfl, q _ _ rfl (I1.hok.fresh (Nat.le_refl _))⟩
theorem CallR.or {f : Value} {r r' : List V → Hp → VK → Prop} (h : CallR X f r) (h' : CallR X f r') : CallR X f (fun xs H Q => r xs H Q ∨ r' xs H Q) := by
  intro pins s σ H xs us Q I rv q
  rcases q with q | q
  · exact h pins s σ H xs us Q I rv q
  · exact h' pins s σ H xs us Q I rv q
theorem tuple_ok : CallR X (.type "tuple") (rP X.K .tuple) := by
  refine CallR.imp (CallR.or call_tuple_of call_tuple_frz) fun xs H Q h => ?_
  obtain ⟨F, us, r, e, hu, hr, k⟩ := h
  unfold primSem at hr
  split at hr
  all_goals try contradiction
  all_goals cases hr
  · obtain ⟨x, rfl, hx⟩ := hu.one
    obtain ⟨a, vs, rfl, h1, h2⟩ := hx.list e
    split at k
    · rename_i hn
      exact .inr ⟨a, vs, rfl, .of h1, fun p o hd hp => k _ _ _ _ (.ptup e hp hd hn h2)⟩
    · exact .inl ⟨a, vs, rfl, .inl ⟨.of h1, fun p hp => k _ _ _ _ (.tup e hp h2)⟩⟩
  · obtain ⟨x, rfl, hx⟩ := hu.one
    obtain ⟨a, vs, rfl, f1, h1, h2⟩ := hx.tup e
    exact .inl ⟨a, vs, rfl, .inr ⟨h1.sq, k _ _ _ _ (.old e f1)⟩⟩
theorem list_ok : CallR X (.type "list") (rP X.K .list) := by
  refine CallR.imp call_list_of fun xs H Q h => ?_
  obtain ⟨F, us, r, e, hu, hr, k⟩ := h
  unfold primSem at hr
  split at hr
  all_goals try contradiction
  all_goals cases hr
  · obtain ⟨x, rfl, hx⟩ := hu.one
    obtain ⟨a, vs, rfl, h1, h2⟩ := hx.list e
    exact ⟨a, vs, rfl, .inl (.of h1), fun p hp => k _ _ _ _ (.lst e hp h2)⟩
  · obtain ⟨x, rfl, hx⟩ := hu.one
    obtain ⟨a, vs, rfl, f1, h1, h2⟩ := hx.tup e
    exact ⟨a, vs, rfl, .inr h1.sq, fun p hp => k _ _ _ _ (.lst e hp h2)⟩
/-- isinstance(x, T) -/
def rIsD (K : PySem.W.Frag) (T : String) : List V → Hp → VK → Prop := fun xs H Q => ∃ F x u r, xs = [x, .ty T] ∧ Same F H ∧ VwAt K F H x u ∧ primSem (.isi T) [u] = some r ∧ ∀ v F' H' B, ResAt K F H r v F' H' B → Q v H'
theorem dct_ty {K : PySem.W.Frag} {F H : Hp} {a : Addr} {t : Bool} {kvs : KVs} (h : DctAt K F H a t kvs) : TyOf K H (.ref a) (.type "dict") := by
  cases t with
  | false => obtain ⟨hk, h1, _⟩ := h; exact .dK h1
  | true => obtain ⟨hk, h1, _⟩ := h; exact .dT h1
theorem isi_ok (T : String) : CallR X (.builtin "isinstance") (rIsD X.K T) := by
  refine CallR.imp call_isi fun xs H Q h => ?_
  obtain ⟨F, x, u, r, rfl, e, hu, hr, k⟩ := h
  obtain ⟨t, e1, hr⟩ := bindE (show ((tyOf u).bind fun t => (kitB t T).map fun b => O.d (.bool b)) = some r from hr)
  obtain ⟨b, e2, rfl⟩ := mapE hr
  refine ⟨x, .ty T, .type t, .type T, b, rfl, .ty T, ?_, kit_ty e2, k _ _ _ _ (.val e fun F => .bl _)⟩
  unfold tyOf at e1
  split at e1
  all_goals try contradiction
  all_goals cases e1
  · obtain rfl := hu.non; exact .base .non
  · obtain rfl := hu.bl; exact .base (.bl _)
  · obtain rfl := hu.int; exact .base (.int _)
  · rcases hu with h | ⟨_, _, _, _, q, _⟩
    · cases h; exact .base (.str _)
    · cases q
  · obtain ⟨a, vs, rfl, h1, _⟩ := hu.list e; exact .base (.lst h1)
  · have h : Den X.K H x (.list _) := hu
    cases h with
    | lst h1 h2 => exact .base (.lst h1)
  · obtain ⟨a, vs, rfl, _, h1, _⟩ := hu.tup e
    rcases h1 with h1 | ⟨o, h1, _⟩
    · exact .base (.tup h1)
    · exact .fTuple h1
  · rcases hu with h | ⟨_, _, _, _, q, _⟩
    · cases h with
      | dk0 h1 => exact .base (.dK (e _ _ h1))
    · cases q
  · obtain ⟨a, rfl, h1⟩ := hu; exact .base (dct_ty h1)
/-- repr(x) -/
theorem repr_ok (hg : X.A.guards = some []) (hu : X.A.units + 66 < cLine) : CallR X (.builtin "repr") (rP X.K .repr) := by
  intro pins s σ H xs vs Q I rv h
  obtain ⟨F, us, r, e, hw, hr, k⟩ := h
  unfold primSem at hr
  split at hr
  all_goals try contradiction
  obtain ⟨x, e1, hr⟩ := bindE hr
  obtain ⟨y, rfl, hy⟩ := hw.one
  split at hr
  · rename_i z
    cases hr
    rw [Bool.and_eq_true, Bool.and_eq_true, Bool.and_eq_true] at z
    obtain ⟨⟨⟨z1, z2⟩, z3⟩, z4⟩ := z
    have z2 := of_decide_eq_true z2
    have z3 := of_decide_eq_true z3
    have hd := hy.den e e1
    obtain ⟨u, rfl, ry⟩ := vals1 rv
    obtain ⟨as, r1, hs⟩ := Den.reads I x y u hd ry
    have hsm : x.hasDict = true → sysModules ∉ as := fun q => hs (by rw [q] at z4; simpa using z4)
    have fin : ∀ (t : Tok) (s' : Shared), Inv X pins σ H s' → EP X pins σ Q (.str x.shown t) s' := fun t s' I' => ⟨.str x.shown, H, I', ⟨t, rfl⟩, k _ _ _ _ (.val e fun F => .str _)⟩
    cases hd with
    | non => cases ry; exact PySem.P.repr_of_none (fin _ _ (I.tok _))
    | bl b => cases ry; exact PySem.P.repr_of_bool (fin _ _ (I.tok _))
    | int i => obtain ⟨t, rfl⟩ := ry; exact PySem.P.repr_of_int (by simpa [PyData.showable] using z1) (fin _ _ (I.tok _))
    | str c => obtain ⟨t, rfl⟩ := ry; exact PySem.P.repr_of_str (fin _ _ (I.tok _)) z3
    | lst h1 h2 => cases ry; exact repr_of_reads' r1 z1 hsm hg (by omega) (fun _ _ q => q) (fun h' u tk hk => fin _ _ (I.kept hk)) z3
    | tup h1 h2 => cases ry; exact repr_of_reads' r1 z1 hsm hg (by omega) (fun _ _ q => q) (fun h' u tk hk => fin _ _ (I.kept hk)) z3
    | ftup h1 d n h2 => cases ry; exact repr_of_reads' r1 z1 hsm hg (by omega) (fun _ _ q => q) (fun h' u tk hk => fin _ _ (I.kept hk)) z3
    | dk0 h1 => cases ry; exact repr_of_reads' r1 z1 hsm hg (by omega) (fun _ _ q => q) (fun h' u tk hk => fin _ _ (I.kept hk)) z3
  · cases hr
end
end Vm


set_option Elab.async false
set_option linter.all false
set_option maxRecDepth 100000
/-! Vm, part 7: sorted, dict of pairs, get. -/
namespace Vm
open PySem PySem.Spec PyProof.Rows L2

/-! ### sorted -/
theorem sortable_of {xs : List PyData} (h : sortable xs = true) : PySem.W.AllAlike xs ∧ PySem.W.Sortable xs ∧ ∀ x ∈ xs, x.depth ≤ 40 := by
  unfold sortable at h
  rw [Bool.and_eq_true, Bool.and_eq_true] at h
  obtain ⟨⟨h1, h2⟩, h3⟩ := h
  refine ⟨fun d hd d' hd' => ?_, ?_, fun x hx => ?_⟩
  · exact List.all_eq_true.mp (List.all_eq_true.mp h1 d hd) d' hd'
  · rw [Bool.or_eq_true] at h2
    rcases h2 with h2 | h2
    · refine .inl fun d hd => ?_
      have q := List.all_eq_true.mp h2 d hd
      cases d with
      | tuple l =>
        cases l with
        | nil => cases q
        | cons a b => exact ⟨a, b, rfl⟩
      | none => cases q
      | bool b => cases q
      | int i => cases q
      | str s => cases q
      | list l => cases q
      | dict l => cases q
    · refine .inr fun d hd => ?_
      have q := List.all_eq_true.mp h2 d hd
      refine ⟨fun z => ?_, fun l z => ?_⟩ <;> (subst z; cases q)
  · exact of_decide_eq_true (List.all_eq_true.mp h3 x hx)
section
variable {X : Cx} {pins : List (Addr × Obj)} {σ : L2.St} {H F : Hp} {s : Shared}
/-- each value: a V that denotes in F, and what the machine reads -/
def Ech (K : PySem.W.Frag) (F : Hp) (v : Value) (d : PyData) : Prop := ∃ x, RelV x v ∧ Den K F x d
theorem each_of {K : PySem.W.Frag} {F : Hp} : ∀ {vs : List V} {its : List Value} {ds : List PyData}, Vals vs its → DenAll K F vs ds → PySem.W.EachIs (Ech K F) its ds
  | _, _, _, .nil, .nil => .nil
  | _, _, _, .cons r t, .cons h hs => .cons ⟨_, r, h⟩ (each_of t hs)
theorem of_each {K : PySem.W.Frag} {F : Hp} : ∀ {its : List Value} {ds : List PyData}, PySem.W.EachIs (Ech K F) its ds → ∃ vs, Vals vs its ∧ DenAll K F vs ds
  | _, _, .nil => ⟨[], .nil, .nil⟩
  | _, _, .cons ⟨x, h1, h2⟩ t => by
    obtain ⟨vs, q1, q2⟩ := of_each t
    exact ⟨x :: vs, .cons h1 q1, .cons h2 q2⟩
theorem each_reads (I : Inv X pins σ H s) (e : Same F H) : ∀ {its : List Value} {ds : List PyData}, PySem.W.EachIs (Ech X.K F) its ds → PySem.W.EachIs (fun v d => ∃ as, Reads s.heap v d as) its ds
  | _, _, .nil => .nil
  | _, _, .cons ⟨x, h1, h2⟩ t => by
    obtain ⟨as, r, _⟩ := Den.reads I _ x _ (h2.mono e) h1
    exact .cons ⟨as, r⟩ (each_reads I e t)
theorem dataLe_id : PySem.W.dataLe false (fun d : PyData => d) = fun a b => !PySem.W.dataLt b a := rfl
/-- the second half of sorted: a new list of the items, sorted in its place -/
theorem sort_tail {Q : VK} (hc : X.calm = true) (I : Inv X pins σ H s) (e : Same F H) {its : List Value} {vs : List V} {ds : List PyData} (rv : Vals vs its) (hd : DenAll X.K F vs ds) (so : sortable ds = true) (hL : its.length ≤ sizeLine) (hu : X.A.units + 60 < cLine)
    (k : ∀ p ws, H p = none → DenAll X.K F ws (sortD ds) → Q (.ref p) (upd H p (.lst ws))) :
    wpAny (model X.prog X.w) X.A.in1 (do let l ← newList its; let _ ← holding [l] (call (.builtin "list.sort") [l] []); PySem.ret l) (fun (fin : PySem.Fin) s' => ∃ r, fin = .done (.ret r) ∧ EP X pins σ Q r s') X.xe s := by
  obtain ⟨z1, z2, z3⟩ := sortable_of so
  have ea := each_of rv hd
  refine wpAny_bind (wpAny_newList ?_ hL)
  generalize hp : s.heap.objs.size = p
  have hoL : (s.heap.push (seqObj "list" its.toArray 0)).get? p = some (seqObj "list" its.toArray 0) := by rw [← hp]; exact Heap.get?_push_size _ rfl
  show wpAny _ _ _ _ _ { s with heap := s.heap.push (seqObj "list" its.toArray 0) }
  have kept : ∀ b o, s.heap.get? b = some o → (PySem.W.sortingHeap (s.heap.push (seqObj "list" its.toArray 0)) p its).get? b = some o := fun b o q =>
    PySem.W.sortingHeap_old (by rw [← hp]; exact Nat.ne_of_lt (Heap.lt_size q)) (Heap.get?_push_of_some _ q)
  have er : PySem.W.EachIs (fun v d => ∃ as, Reads (PySem.W.sortingHeap (s.heap.push (seqObj "list" its.toArray 0)) p its) v d as) its ds :=
    (each_reads I e ea).mono fun _ _ ⟨as, r⟩ => ⟨as, PyProof.Rows.Reads.keeps kept r⟩
  have SA := PySem.W.SortsAt.data (prog := X.prog) (w := X.w) (A := X.A.in1.in1) (s := { s with heap := PySem.W.sortingHeap (s.heap.push (seqObj "list" its.toArray 0)) p its }) er z1 z2 fun d hd' => by
    have := z3 d hd'
    show X.A.units + 1 + 1 + d.depth < cLine
    omega
  refine wpAny_bind (wpAny_holding (wpAny_call_entry PyProof.Rows.slot_list_sort ⟨_, hoL, rfl⟩ PyProof.Rows.entry_list_sort
    (PySem.W.list_sort_vals (s := { s with heap := s.heap.push (seqObj "list" its.toArray 0) }) hoL SA hL ⟨_, rfl, ?_⟩) (PyProof.Rows.args_list_sort _)))
  have eo : PySem.W.EachIs (Ech X.K F) (PySem.W.sortVals (PySem.W.dataKind (PySem.W.sortingHeap (s.heap.push (seqObj "list" its.toArray 0)) p its) ds) false its its) (ds.mergeSort (PySem.W.dataLe false fun d => d)) := by
    have q := PySem.W.sortVals_data (enc := fun d : PyData => d) false ea (by exact er) (by rw [List.map_id']; exact z1)
    rw [List.map_id'] at q
    exact q
  generalize ho : PySem.W.sortVals (PySem.W.dataKind (PySem.W.sortingHeap (s.heap.push (seqObj "list" its.toArray 0)) p its) ds) false its its = out at eo ⊢
  obtain ⟨ws, r1, r2⟩ := of_each eo
  obtain ⟨ep, he'⟩ := PyProof.Rows.sortedHeap_at (vs := its) (out := out.toArray) hoL
  have hn : H p = none := by rw [← hp]; exact I.hok.fresh (Nat.le_refl _)
  have hlen : ws.length ≤ sizeLine := by
    rw [r2.length, List.length_mergeSort, ← hd.length, rv.length]
    exact hL
  refine wpAny_pure ⟨_, rfl, .ref p, upd H p (.lst ws), ?_, rfl, k p ws hn r2⟩
  have I2 : Inv X pins σ (upd H p (.lst ws)) { s with heap := PyProof.Rows.sortedHeap (s.heap.push (seqObj "list" its.toArray 0)) p its out.toArray, toks := s.toks } := by
    refine I.laid (t' := s.toks) (fun b u q => ?_) (Nat.le_of_eq hp) (show ObjOk X.prog X.w _ _ _ (.lst ws) from ⟨hlen, out, ep, r1, by simpa using he'⟩)
    have hb : b < p := by rw [← hp]; exact Heap.lt_size q
    rw [PyProof.Rows.sortedHeap_old (Nat.ne_of_lt hb) (by rw [size_push', hp]; exact Nat.lt_succ_of_lt hb)]
    exact Heap.get?_push_of_some _ q
  exact I2
end
end Vm


set_option Elab.async false
set_option linter.all false
set_option maxRecDepth 100000
/-! Vm, part 8: sorted of lists and dicts; dict of pairs. -/
namespace Vm
open PySem PySem.Spec PyProof.Rows L2

/-! ### tuples of ints and texts that stand may be taken for plain data -/
def flatK : V → Bool
  | .int _ => true
  | .str _ => true
  | _ => false
def flatF (F H : Hp) : Hp := fun b => match F b with
  | some o => some o
  | none => match H b with
    | some (.tup vs) => if vs.all flatK then some (.tup vs) else none
    | _ => none
theorem flatF_grow {F H : Hp} (s : Same F H) : Grow F H (flatF F H) H := by
  refine ⟨fun b o e => ?_, Same.refl _, fun b o e => ?_, fun b h => ?_⟩
  · unfold flatF; rw [e]
  · unfold flatF at e
    cases q : F b with
    | some u => rw [q] at e; cases e; exact s b _ q
    | none =>
      rw [q] at e
      cases r : H b with
      | none => rw [r] at e; cases e
      | some u =>
        rw [r] at e
        cases u with
        | tup vs =>
          have e : (if vs.all flatK then some (HO.tup vs) else none) = some o := e
          split at e
          · exact e
          · cases e
        | _ => cases e
  · unfold flatF at h
    cases q : F b with
    | some u => exact .inl (fun z => nomatch z)
    | none =>
      rw [q] at h
      cases r : H b with
      | none => rw [r] at h; exact absurd rfl h
      | some u =>
        rw [r] at h
        cases u with
        | tup vs => exact .inr (.inr ⟨vs, r⟩)
        | _ => exact absurd rfl h
theorem flat_kV (ks : List Key) : (ks.map kV).all flatK = true := by
  rw [List.all_map]
  exact List.all_eq_true.mpr fun k _ => by cases k <;> rfl
theorem flatF_tup {F H : Hp} (s : Same F H) {b : Addr} {ks : List Key} (h : H b = some (.tup (ks.map kV))) : flatF F H b = some (.tup (ks.map kV)) := by
  unfold flatF
  cases q : F b with
  | some u =>
    have := s b u q
    rw [h] at this
    cases this
    rfl
  | none =>
    rw [h]
    show (if (ks.map kV).all flatK then some (HO.tup (ks.map kV)) else none) = _
    rw [if_pos (flat_kV ks)]
theorem den_keys {K : PySem.W.Frag} {F : Hp} : ∀ ks : List Key, DenAll K F (ks.map kV) (ks.map keyDat)
  | [] => .nil
  | .inl i :: ks => .cons (.int i) (den_keys ks)
  | .inr x :: ks => .cons (.str x) (den_keys ks)
theorem den_key {K : PySem.W.Frag} {F : Hp} : ∀ k : Key, Den K F (kV k) (keyDat k)
  | .inl i => .int i
  | .inr x => .str x

section
variable {X : Cx}
theorem keysT {K : PySem.W.Frag} {F H : Hp} (e : Same F H) : ∀ {hk : List (List Key × V)} {kvs : KVs} {ks : List (List Key × Addr × Value)}, KTr K F hk kvs → KT H hk ks → DenAll K (flatF F H) (ks.map fun x => V.ref x.2.1) (kvs.map fun p => p.1.dat)
  | _, _, _, .nil, .nil => .nil
  | _, _, _, .cons h t, .cons h' t' => by
    rw [List.map_cons, List.map_cons]
    refine .cons ?_ (keysT e t t')
    obtain ⟨e1, _⟩ := h
    obtain ⟨e2, e3, _⟩ := h'
    rw [e1]
    exact .tup (flatF_tup e e3) (den_keys _)
theorem keysK {K : PySem.W.Frag} {F : Hp} : ∀ {hk : List (Key × V)} {kvs : KVs}, KVr K F hk kvs → DenAll K F (hk.map fun p => kV p.1) (kvs.map fun p => p.1.dat)
  | _, _, .nil => .nil
  | _, _, .cons h t => by
    rw [List.map_cons, List.map_cons]
    refine .cons ?_ (keysK t)
    rw [h.1]
    exact den_key _
theorem items_T {K : Type} [DecidableEq K] {prog : Program} {w : World} {knd : HeapKind prog w K} {es : Array DictEntry} {ks : List (K × Addr × Value)} (he : es.toList = ks.map (entryOfKey knd)) {acc : Array Value}
    (it : ItemsOf (fun i v => ∃ en : DictEntry, es[i]? = some en ∧ v = en.key) acc es.size) : acc.toList = (ks.map fun x => x.2.1).map Value.ref := by
  have hl : acc.toList.length = ks.length := by rw [Array.length_toList, it.1]; exact size_of_entries he
  refine List.ext_getElem? fun j => ?_
  rw [List.getElem?_map, List.getElem?_map]
  cases hj : acc.toList[j]? with
  | none =>
    have q : ks[j]? = none := List.getElem?_eq_none (by have := List.getElem?_eq_none_iff.mp hj; omega)
    rw [q]
    all_goals rfl
  | some v =>
    obtain ⟨en, hen, rfl⟩ := it.2 j v (by rw [← Array.getElem?_toList]; exact hj)
    have qe := entry_at he j
    rw [hen] at qe
    cases hb : ks[j]? with
    | none => rw [hb] at qe; cases qe
    | some b =>
      rw [hb] at qe
      have qe : some en = some (entryOfKey knd b) := qe
      cases qe
      all_goals rfl
theorem sorted_ok (hc : X.calm = true) (hu : X.A.units + 66 < cLine) : CallR X (.builtin "sorted") (rP X.K .sorted) := by
  intro pins s σ H xs us Q I rv h
  obtain ⟨F, ws, r, e, hw, hr, k⟩ := h
  unfold primSem at hr
  split at hr
  all_goals try contradiction
  · rename_i ds _
    obtain ⟨x, rfl, hx⟩ := hw.one
    obtain ⟨a, vs, rfl, h1, h2⟩ := hx.list e
    obtain ⟨u, rfl, ru⟩ := vals1 rv
    cases ru
    split at hr
    · rename_i so
      cases hr
      obtain ⟨z1, z2, z3⟩ := sortable_of so
      obtain ⟨its, rl, pl, hz⟩ := I.list (SqL.of h1)
      have ea := each_of rl h2
      have q1 : ds.map (fun d => d) = ds := List.map_id' ds
      refine PySem.W.sorted_data (enc := fun d : PyData => d) pl.isList ea (each_reads I e ea) (by rw [q1]; exact z1) (by rw [q1]; exact z2) (by rw [← h2.length]; exact hz) (fun d hd => by have := z3 d hd; show X.A.units + 2 + d.depth < cLine; omega) fun out hl eo => ?_
      obtain ⟨ws', r1, r2⟩ := of_each eo
      obtain ⟨ep, he'⟩ := PyProof.Rows.sortedAll_at s.heap its out.toArray
      have hn : H (s.heap.objs.size + 1) = none := I.hok.fresh (Nat.le_succ _)
      have hlen : ws'.length ≤ sizeLine := by rw [r1.length, hl, ← h2.length]; exact hz
      exact ⟨.ref (s.heap.objs.size + 1), upd H (s.heap.objs.size + 1) (.lst ws'), I.laid (t' := s.toks) (fun _ _ => PyProof.Rows.sortedAll_old) (Nat.le_succ _) ⟨hlen, out, ep, r1, by simpa using he'⟩, rfl, k _ _ _ _ (.lst e hn r2)⟩
    · cases hr
  · rename_i t kvs _
    obtain ⟨x, rfl, hx⟩ := hw.one
    obtain ⟨a, rfl, hd⟩ := hx
    obtain ⟨u, rfl, ru⟩ := vals1 rv
    cases ru
    split at hr
    · rename_i so
      cases hr
      refine Calls.call_function_entry PyProof.Rows.kind_sorted PyProof.Rows.plain_sorted PyProof.Rows.entry_sorted (PyProof.Rows.args_sorted1 _) ?_
      unfold Builtin.«sorted»
      refine wpAny_bind (m := checkCount "sorted" 1 1 _) (wpAny_pure ?_)
      cases t with
      | true =>
        obtain ⟨hk, h1, h2⟩ := hd
        obtain ⟨z, hs, ks, pr, o, es, ep, ho, hx, hdt, he, hn⟩ := (show ObjOk X.prog X.w H s.heap a (.dT hk) from I.hok a _ h1)
        have l1 : es.size = ks.length := size_of_entries he
        have l2 : hk.length = ks.length := Paired.length pr
        refine wpAny_bind (PySem.W.kdu_collect (A := X.A.in1) (kdl_raw hs hx hdt) (I.ok.hd hc) ho (by omega) fun h' tk acc kp it => ?_)
        have ea := items_T he it
        have I1 : Inv X pins σ H { s with heap := h', toks := tk } := I.kept kp
        have rl : Vals ((ks.map fun x => x.2.1).map V.ref) acc.toList := by rw [ea]; exact vals_refs _
        have hD := keysT (K := X.K) e h2 pr
        have g := flatF_grow e
        refine sort_tail hc I1 g.sm rl (by rw [List.map_map]; exact hD) so (by rw [← rl.length, List.length_map, List.length_map]; omega) (by omega) fun p ws hp hw => k _ (flatF F H) _ [p] ?_
        exact ⟨g.trans (Grow.new g.sm hp), ⟨p, ws, rfl, rfl, upd_same, hw⟩, by simp, fun b hb => by
          have q : b = p := by simpa using hb
          subst q
          exact ⟨hp, g.sm.free hp, .inl ⟨ws, upd_same⟩⟩⟩
      | false =>
        obtain ⟨hk, h1, h2⟩ := hd
        obtain ⟨z, lo, ps, rel, dd⟩ := dk_rd I.hok (.inl h1)
        obtain ⟨ep, hat⟩ := dd.dictAt
        have l2 : hk.length = ps.length := rel.length
        refine wpAny_bind (PySem.W.kdu_collect (A := X.A.in1) (PySem.W.kdl_dict (knd := mixKind X.prog X.w) (kvs := ps) (ep := ep) lo) (I.ok.hd hc) hat (by omega) fun h' tk acc kp it => ?_)
        have I1 : Inv X pins σ H { s with heap := h', toks := tk } := I.kept kp
        have rl : Vals (hk.map fun p => kV p.1) acc.toList := by
          refine vals_of_at (by rw [List.length_map, l2, Array.length_toList]; exact it.1.symm) fun j x u hx hu => ?_
          obtain ⟨q, y, e1, e2⟩ := it.2 j u (by rw [← Array.getElem?_toList]; exact hu)
          rw [List.getElem?_map] at hx
          have e3 : (hk.map (·.1))[j]? = some q := by rw [rel.keys, List.getElem?_map, e1]; rfl
          rw [List.getElem?_map] at e3
          cases e4 : hk[j]? with
          | none => rw [e4] at hx; cases hx
          | some p =>
            rw [e4] at hx e3
            cases hx
            cases e3
            exact keyIs_rel e2
        exact sort_tail hc I1 e rl (keysK h2) so (by rw [← rl.length, List.length_map]; omega) (by omega) fun p ws hp hw => k _ _ _ _ (.lst e hp hw)
    · cases hr
end
end Vm


set_option Elab.async false
set_option linter.all false
set_option maxRecDepth 100000
/-! Vm, part 9: dict of pairs whose keys are tuples; reversals. -/
namespace Vm
open PySem PySem.Spec PyProof.Rows L2

/-- one pair: its tuple's place, its key's place, the key, its value as V, as what the machine reads, as data -/
structure PrE where
  T : Addr
  b : Addr
  ks : List Key
  v : V
  u : Value
  d : PyData
section
variable {X : Cx} {pins : List (Addr × Obj)} {σ : L2.St} {H F : Hp} {s : Shared}
def PrE.Ok (K : PySem.W.Frag) (F H : Hp) (h : Heap) (q : PrE) : Prop := H q.b = some (.tup (q.ks.map kV)) ∧ RelV q.v q.u ∧ Den K F q.v q.d ∧ PairAt h q.T (.ref q.b) q.u
theorem pairs_tab (I : Inv X pins σ H s) (e : Same F H) : ∀ {xs : List PyData} {vs : List V} {its : List Value} {ps : List (PyData × PyData)} {acc kvs : KVs}, DenAll X.K F vs xs → Vals vs its → pairsOf xs = some ps → dictOf true ps acc = some kvs →
    ∃ qs : List PrE, (∀ q ∈ qs, q.Ok X.K F H s.heap) ∧ its = qs.map (fun q => Value.ref q.T) ∧ kvs = qs.foldl (fun a q => kvPut a (.t q.ks) q.d) acc
  | [], _, _, _, _, _, .nil, .nil, h, g => by
    cases h
    cases g
    exact ⟨[], by simp, rfl, rfl⟩
  | x :: xs, v :: vs, i :: its, ps, acc, kvs, .cons h1 h2, .cons r1 r2, h, g => by
    unfold pairsOf at h
    split at h
    · cases ‹_ :: _ = []›
    · rename_i a b xs' ez
      obtain ⟨ex, exs⟩ := List.cons.inj ez
      subst ex exs
      obtain ⟨ps', hp, rfl⟩ := mapE h
      unfold dictOf at g
      cases ek : toDK a with
      | none => rw [ek] at g; cases g
      | some k =>
        rw [ek] at g
        simp only at g
        split at g
        · rename_i ht
          cases k with
          | k y => cases ht
          | t ks =>
            obtain ⟨T, ws, rfl, tp, hall⟩ : ∃ T ws, v = .ref T ∧ TpAt H T ws ∧ DenAll X.K F ws [a, b] := by
              cases h1 with
              | tup hT hall => exact ⟨_, _, rfl, .inl (e _ _ hT), hall⟩
              | ftup hT d n hall => exact ⟨_, _, rfl, .inr ⟨_, e _ _ hT, d⟩, hall⟩
            cases hall with
            | cons ha hall =>
              cases hall with
              | cons hb hall =>
                cases hall
                rename_i va vb
                obtain ⟨b', rfl, hb'⟩ := key_t ek ha
                cases r1
                obtain ⟨its2, rv2, pt, _⟩ := I.tuple tp.sq
                obtain ⟨u1, u2, rfl, q1, q2⟩ := vals2 rv2
                cases q1
                obtain ⟨qs, k1, k2, k3⟩ := pairs_tab I e h2 r2 hp g
                refine ⟨⟨T, b', ks, vb, u2, b⟩ :: qs, fun q hq => ?_, by rw [k2]; rfl, k3⟩
                rcases List.mem_cons.mp hq with z | z
                · subst z
                  exact ⟨e _ _ hb', q2, hb, .inl (by simpa using (show s.heap.IsTuple T _ from pt))⟩
                · exact k1 q z
        · cases g
    · cases h
theorem fold_tab {K : PySem.W.Frag} {P : Program} {w : World} {F H : Hp} {h : Heap} : ∀ {qs : List PrE} {hk : List (List Key × V)} {xs : List (List Key × Addr × Value)} {acc : KVs}, (∀ q ∈ qs, q.Ok K F H h) → KT H hk xs → KTr K F hk acc →
    KT H (qs.foldl (fun a q => putK a q.ks q.v) hk) (storedAllH xs (qs.map fun q => (q.ks, q.b, q.u))) ∧ KTr K F (qs.foldl (fun a q => putK a q.ks q.v) hk) (qs.foldl (fun a q => kvPut a (.t q.ks) q.d) acc)
  | [], _, _, _, _, a, b => ⟨a, b⟩
  | q :: qs, hk, xs, acc, ok, a, b => by
    obtain ⟨h1, h2, h3, _⟩ := ok q List.mem_cons_self
    exact fold_tab (P := P) (w := w) (qs := qs) (fun z (hz : z ∈ qs) => ok z (List.mem_cons_of_mem _ hz)) (a.put q.ks h1 h2) (Paired.putK DK.t dt_inj b q.ks h3)
theorem putK_fold_len : ∀ (qs : List PrE) (hk : List (List Key × V)), (qs.foldl (fun a q => putK a q.ks q.v) hk).length ≤ hk.length + qs.length
  | [], _ => Nat.le_refl _
  | q :: qs, hk => by
    have h1 := putK_fold_len qs (putK hk q.ks q.v)
    have h2 := length_putK hk q.ks q.v
    simp only [List.foldl_cons, List.length_cons]
    omega
/-- dict(x), x a list or a tuple whose object is known -/
def rDct (K : PySem.W.Frag) : List V → Hp → VK → Prop := fun xs H Q => ∃ F a vs ds ps kvs, xs = [V.ref a] ∧ Same F H ∧ (SqL K H a vs ∨ ∃ o, H a = some (.frz o (.tup vs)) ∧ o.dict = none) ∧ DenAll K F vs ds ∧ pairsOf ds = some ps ∧ dictOf true ps [] = some kvs ∧
  ∀ v F' H' B, ResAt K F H (.dct true kvs) v F' H' B → Q v H'
theorem dictT_ok (hc : X.calm = true) (hu : X.A.units + 66 < cLine) : CallR X (.type "dict") (rDct X.K) := by
  intro pins s σ H xs us Q I rv h
  obtain ⟨F, a, vs, ds, ps, kvs, rfl, e, hq, hd, e1, e2, k⟩ := h
  have go : ∀ {T : String} {a : Addr} {vs : List V} {ds : List PyData} {its : List Value} {ps : List (PyData × PyData)} {kvs : KVs}, us = [.ref a] → Vals vs its → PlainSeq T s.heap a its.toArray → its.length ≤ sizeLine → DenAll X.K F vs ds →
      (∀ (Ts : Nat → Addr) (ps : List (Value × Value)), PairArg X.prog X.w T a (a :: (List.range ps.length).map Ts) [] ps.length (PairRel ps) (fun h => PlainSeq T h a its.toArray ∧ PairItems h its.toArray Ts ps)) →
      pairsOf ds = some ps → dictOf true ps [] = some kvs → (∀ v F' H' B, ResAt X.K F H (.dct true kvs) v F' H' B → Q v H') → wpAny (model X.prog X.w) X.A (call (.type "dict") us) (EP X pins σ Q) X.xe s := by
    intro T a vs ds its ps kvs eu rl pl hz hd PA e1 e2 k
    subst eu
    obtain ⟨qs, k1, k2, k3⟩ := pairs_tab I e hd rl e1 e2
    let Ts : Nat → Addr := fun j => ((qs[j]?).map (·.T)).getD 0
    let pz : List (Value × Value) := qs.map fun q => (.ref q.b, q.u)
    have hn : pz.length = qs.length := List.length_map _
    have hl : its.length = qs.length := by rw [k2, List.length_map]
    refine call_dict_pairsH (knd := tupleKind (mixKind X.prog X.w)) (ps := qs.map fun q => (q.ks, q.b, q.u)) (PA Ts pz) (I.ok.hd hc) (tupleKind_room_in1 (by show X.A.units + 1 + 1 < cLine; omega)) ⟨pl, by simp [hl, hn], fun j kk vv hj => ?_⟩ ⟨by rw [List.length_map, hn], fun i key v hr => ?_⟩ (fun h' hk x hx => ?_) (by rw [hn, ← hl]; exact hz) fun h' tk hd' hk => ?_
    · rw [List.getElem?_map] at hj
      cases hq : qs[j]? with
      | none => rw [hq] at hj; cases hj
      | some q =>
        rw [hq] at hj
        cases hj
        have et : Ts j = q.T := by show ((qs[j]?).map (·.T)).getD 0 = q.T; rw [hq]; rfl
        refine ⟨?_, ?_⟩
        · rw [et, k2]
          simp [hq]
        · rw [et]
          exact (k1 q (List.mem_of_getElem? hq)).2.2.2
    · have hr : pz[i]? = some (key, v) := hr
      rw [List.getElem?_map] at hr
      cases hq : qs[i]? with
      | none => rw [hq] at hr; cases hr
      | some q =>
        rw [hq] at hr
        cases hr
        exact ⟨q.ks, q.b, by rw [List.getElem?_map, hq]; rfl, rfl⟩
    · obtain ⟨q, hq, rfl⟩ := List.mem_map.mp hx
      have hb := (k1 q hq).1
      refine tupleKind_stays.stays (fun b o vs n e' _ => hk b o (Nat.ne_of_lt (Heap.lt_size e')) (fun z => nomatch z) e') (key_of I.hok hb)
    · obtain ⟨f1, f2⟩ := fold_tab (P := X.prog) (w := X.w) (K := X.K) (acc := []) (hk := []) (xs := []) k1 .nil .nil
      have hm : (s.heap.objs.size == sysModules) = false := beq_eq_false_iff_ne.mpr (Nat.ne_of_gt I.big)
      have hf : H s.heap.objs.size = none := I.hok.fresh (Nat.le_refl _)
      have hlen : (qs.foldl (fun a q => putK a q.ks q.v) ([] : List (List Key × V))).length ≤ sizeLine := by
        have := putK_fold_len qs []
        simp only [List.length_nil, Nat.zero_add] at this
        omega
      obtain ⟨q, es, ep, hq, h2, h3, h4, _, h5⟩ := hd'
      have new : ObjOk X.prog X.w (upd H s.heap.objs.size (.dT (qs.foldl (fun a q => putK a q.ks q.v) []))) h' s.heap.objs.size (.dT (qs.foldl (fun a q => putK a q.ks q.v) [])) :=
        ⟨hlen, hm, _, f1.keeps fun c ys ec => by rw [upd_ne (ne_of_none ec hf)]; exact ec, q, es, ep, hq, h2, h3, h4, h5⟩
      refine ⟨.ref s.heap.objs.size, _, I.laid (t' := tk) (fun b o e' => hk b o (fun z => nomatch z) e') (Nat.le_refl _) new, rfl, k _ F _ [s.heap.objs.size] ?_⟩
      rw [k3]
      refine ⟨Grow.new e hf, ⟨_, rfl, rfl, _, upd_same, f2⟩, by simp, fun b hb => ?_⟩
      have eb : b = s.heap.objs.size := by simpa using hb
      subst eb
      exact ⟨hf, e.free hf, .inr (.inr ⟨_, upd_same⟩)⟩
  obtain ⟨u, rfl, ru⟩ := vals1 rv
  cases ru
  rcases hq with hq | ⟨ob, hq, hdn⟩
  · obtain ⟨its, rl, pl, hz⟩ := I.list hq
    obtain ⟨o, n, ho, hcl, hdi, hda⟩ := pl
    exact go rfl rl ⟨o, n, ho, hcl, hdi, hda⟩ (by rw [← rl.length]; exact hz) hd (fun Ts ps => PairArg.list a its.toArray Ts ps) e1 e2 k
  · obtain ⟨h1, hz, its, rl, o, ho, hcl, n, hda⟩ := (show ObjOk X.prog X.w H s.heap a (.frz ob (.tup vs)) from I.hok a _ hq)
    rw [h1] at ho
    cases ho
    exact go rfl rl ⟨ob, n, h1, hcl, hdn, hda⟩ (by rw [← rl.length]; exact hz) hd (fun Ts ps => PairArg.tuple a its.toArray Ts ps) e1 e2 k
end
end Vm


set_option Elab.async false
set_option linter.all false
set_option maxRecDepth 100000
/-! Vm, part 10: each construct's rule, by the evaluator. -/
namespace Vm
open PySem PySem.Spec PyProof.Rows L2

section
variable {X : Cx} {Φ : Fs} {a b c : Expr} {ea eb ec : E} {pos : Pos}

/-! ### leaves -/
theorem own_int {K : PySem.W.Frag} {F H : Hp} {S : List Addr} {σ : L2.St} {i : Int} {v : V} {B : List Addr} (h : OwnAt K F H S σ (.d (.int i)) v B) : v = .int i := by
  obtain ⟨_, h⟩ := (show B = [] ∧ Den K F v (.int i) from h)
  cases h
  rfl
theorem own_bl {K : PySem.W.Frag} {F H : Hp} {S : List Addr} {σ : L2.St} {i : Bool} {v : V} {B : List Addr} (h : OwnAt K F H S σ (.d (.bool i)) v B) : v = .bl i := by
  obtain ⟨_, h⟩ := (show B = [] ∧ Den K F v (.bool i) from h)
  cases h
  rfl
theorem leaf {σ : L2.St} {H F : Hp} {S : List Addr} {st : St} {A : Nat → List Addr} {x : PyData} {v : V} (R : Rel X.K F H S σ st A) (h : Den X.K F v x) : Post X.K F H S σ A (.d x) st v F H A [] := .here R ⟨rfl, h⟩
theorem e_int {i : Int} {j : Nat} : PE X (.Constant (.int i) j pos) (tE Φ X.K (.int i)) := PE.imp pe_int fun σ H Q h => by
  obtain ⟨F, S, st, A, o, st', R, e, k⟩ := h
  rw [evE] at e
  cases e
  exact k _ _ _ _ _ (leaf R (.int i))
theorem e_bl {i : Bool} {j : Nat} : PE X (.Constant (.bool i) j pos) (tE Φ X.K (.bl i)) := PE.imp pe_bl fun σ H Q h => by
  obtain ⟨F, S, st, A, o, st', R, e, k⟩ := h
  rw [evE] at e
  cases e
  exact k _ _ _ _ _ (leaf R (.bl i))
theorem e_non {j : Nat} : PE X (.Constant .none j pos) (tE Φ X.K .non) := PE.imp pe_non fun σ H Q h => by
  obtain ⟨F, S, st, A, o, st', R, e, k⟩ := h
  rw [evE] at e
  cases e
  exact k _ _ _ _ _ (leaf R .non)
theorem e_str {x : Str} {j : Nat} : PE X (.Constant (.str x) j pos) (tE Φ X.K (.str x)) := PE.imp pe_str fun σ H Q h => by
  obtain ⟨F, S, st, A, o, st', R, e, k⟩ := h
  rw [evE] at e
  cases e
  exact k _ _ _ _ _ (leaf R (.str x))
section
variable {i : Nat} {x : Str} (hN : X.N[i]? = some x) (hv : Vis X.env.scope x) (hd : (x == ("__debug__" : Str)) = false) (hcd : (x == ("__classdict__" : Str)) = false)
include hN hv hd hcd
theorem e_var : PE X (.Name x pos) (tE Φ X.K (.var i)) := PE.imp (pe_var hN hv hd hcd) fun σ H Q h => by
  obtain ⟨F, S, st, A, o, st', R, e, k⟩ := h
  rw [evE] at e
  obtain ⟨v, h1, p⟩ := rdVar_ok R e
  exact ⟨v, h1, k _ _ _ _ _ p⟩
theorem e_bor : PE X (.Name x pos) (tE Φ X.K (.bor i)) := PE.imp (pe_var hN hv hd hcd) fun σ H Q h => by
  obtain ⟨F, S, st, A, o, st', R, e, k⟩ := h
  rw [evE] at e
  obtain ⟨v, h1, p⟩ := rdBor_ok R e
  exact ⟨v, h1, k _ _ _ _ _ p⟩
theorem e_mov : PE X (.Name x pos) (tE Φ X.K (.mov i)) := PE.imp (pe_var hN hv hd hcd) fun σ H Q h => by
  obtain ⟨F, S, st, A, o, st', R, e, k⟩ := h
  rw [evE] at e
  obtain ⟨v, h1, p⟩ := rdMov_ok R e
  exact ⟨v, h1, k _ _ _ _ _ p⟩
end

/-! ### operators -/
theorem Post2.res {K : PySem.W.Frag} {F H F2 H2 : Hp} {S : List Addr} {σ : L2.St} {A A2 : Nat → List Addr} {x y : O} {s2 : St} {v w : V} {B C : List Addr} (p : Post2 K F H S σ A x y s2 v w F2 H2 A2 B C) {r : O} {u : V} {F' H' : Hp} {D : List Addr} (q : ResAt K F2 H2 r u F' H' D) :
    Post K F H S σ A r s2 u F' H' A2 D := Post.res p.step (fun _ h => .inl h) p.rel q
theorem Post.res1 {K : PySem.W.Frag} {F H F2 H2 : Hp} {S : List Addr} {σ : L2.St} {A A2 : Nat → List Addr} {x : O} {s2 : St} {v : V} {B : List Addr} (p : Post K F H S σ A x s2 v F2 H2 A2 B) {r : O} {u : V} {F' H' : Hp} {D : List Addr} (q : ResAt K F2 H2 r u F' H' D) :
    Post K F H S σ A r s2 u F' H' A2 D := Post.res p.step (fun _ h => .inl h) p.rel q
theorem e_bin (op : Bop) (ha : PE X a (tE Φ X.K ea)) (hb : PE X b (tE Φ X.K eb)) : PE X (.BinOp a op.op b pos) (tE Φ X.K (.bin op ea eb)) := PE.imp (pe_op (bop_ok op) ha hb) fun σ H Q h => by
  obtain ⟨F, S, st, A, o, st', R, e, k⟩ := h
  rw [evE] at e
  obtain ⟨⟨x, s1⟩, h1, e⟩ := bindE e
  obtain ⟨⟨y, s2⟩, h2, e⟩ := bindE e
  obtain ⟨u, hu, e⟩ := bindE e
  obtain ⟨w, hw, e⟩ := bindE e
  obtain ⟨r, hr, e⟩ := mapE e
  cases e
  exact two_read R h1 h2 fun v v' F' H' A' B C p => ⟨F', u, w, _, p.rel.same, vw_ok p.rel p.ownx hu, vw_ok p.rel p.owny hw, hr, fun z F2 H2 D q => k _ _ _ _ _ (p.res q)⟩
theorem e_neg (ha : PE X a (tE Φ X.K ea)) : PE X (.UnaryOp .USub a pos) (tE Φ X.K (.neg ea)) := PE.imp (pe_un un_neg ha) fun σ H Q h => by
  obtain ⟨F, S, st, A, o, st', R, e, k⟩ := h
  rw [evE] at e
  obtain ⟨⟨x, s1⟩, h1, e⟩ := bindE e
  refine one_read R h1 fun v F' H' A' B p => ?_
  dsimp only at e
  split at e
  · cases e
    obtain rfl := own_int p.own
    exact ⟨_, rfl, k _ _ _ _ _ (p.res1 (.val p.rel.same fun F => .int _))⟩
  · cases e
theorem e_cmp (hu : X.A.units + 66 < cLine) (op : Cop) (ha : PE X a (tE Φ X.K ea)) (hb : PE X b (tE Φ X.K eb)) (hm : behindInMarks op.op b = false) : PE X (.Compare a [op.op] [b] pos) (tE Φ X.K (.cmp op ea eb)) := PE.imp (pe_cmpR (cop_ok hu op) ha hb hm) fun σ H Q h => by
  obtain ⟨F, S, st, A, o, st', R, e, k⟩ := h
  rw [evE] at e
  obtain ⟨⟨x, s1⟩, h1, e⟩ := bindE e
  obtain ⟨⟨y, s2⟩, h2, e⟩ := bindE e
  obtain ⟨u, hu, e⟩ := bindE e
  obtain ⟨w, hw, e⟩ := bindE e
  obtain ⟨r, hr, e⟩ := mapE e
  cases e
  exact two_read R h1 h2 fun v v' F' H' A' B C p => ⟨F', u, w, _, p.rel.same, vw_ok p.rel p.ownx hu, vw_ok p.rel p.owny hw, hr, k _ _ _ _ _ (p.res (.val p.rel.same fun F => .bl _))⟩
/-- a test's end -/
theorem Post.test {K : PySem.W.Frag} {F H F2 H2 : Hp} {S : List Addr} {σ : L2.St} {A A2 : Nat → List Addr} {x : O} {s2 : St} {v : V} {B : List Addr} (p : Post K F H S σ A x s2 v F2 H2 A2 B) : PostT K F H S σ σ A s2 F2 H2 A2 := ⟨p.step.weak fun _ h => .inl h, p.rel⟩
theorem t_cmp (hu : X.A.units + 66 < cLine) (op : Cop) (ha : PE X a (tE Φ X.K ea)) (hb : PE X b (tE Φ X.K eb)) (hm : behindInMarks op.op b = false) : PT X (.Compare a [op.op] [b] pos) (tT Φ X.K (.v (.cmp op ea eb))) := PT.imp (pt_cmpR (cop_ok hu op) ha hb hm) fun σ H Q h => by
  obtain ⟨F, S, st, A, o, st', R, e, k⟩ := h
  rw [evT, evE] at e
  obtain ⟨⟨z, s3⟩, e0, e⟩ := bindE e
  obtain ⟨⟨x, s1⟩, h1, e0⟩ := bindE e0
  obtain ⟨⟨y, s2⟩, h2, e0⟩ := bindE e0
  obtain ⟨u, hu, e0⟩ := bindE e0
  obtain ⟨w, hw, e0⟩ := bindE e0
  obtain ⟨r, hr, e0⟩ := mapE e0
  cases e0
  obtain ⟨u1, hu1, e⟩ := bindE e
  obtain ⟨b1, hb1, e⟩ := mapE e
  cases e
  cases hu1
  cases hb1
  exact two_read R h1 h2 fun v v' F' H' A' B C p => ⟨F', u, w, o, p.rel.same, vw_ok p.rel p.ownx hu, vw_ok p.rel p.owny hw, hr, _, rfl, k _ _ _ ⟨p.step.weak fun _ h => .inl h, p.rel⟩⟩
theorem t_val (ha : PE X a (tE Φ X.K ea)) (he : ∀ whole, isTrue a X.env whole = (do let v ← whole; standAt a.pos; holding [v] (truthy v))) : PT X a (tT Φ X.K (.v ea)) := PT.imp (pt_truth ha he) fun σ H Q h => by
  obtain ⟨F, S, st, A, o, st', R, e, k⟩ := h
  rw [evT] at e
  obtain ⟨⟨x, s1⟩, h1, e⟩ := bindE e
  obtain ⟨u, hu, e⟩ := bindE e
  obtain ⟨b1, hb, e⟩ := mapE e
  cases e
  exact one_read R h1 fun v F' H' A' B p => ⟨o, tru_of p.rel.same (vw_ok p.rel p.own hu) hb, k _ _ _ p.test⟩
theorem t_not {t : T} (h : PT X a (tT Φ X.K t)) : PT X (.UnaryOp .Not a pos) (tT Φ X.K (.not t)) := PT.imp (pt_not h) fun σ H Q h => by
  obtain ⟨F, S, st, A, o, st', R, e, k⟩ := h
  rw [evT] at e
  obtain ⟨⟨x, s1⟩, h1, e⟩ := mapE e
  cases e
  exact ⟨F, S, st, A, x, _, R, h1, fun F' H' A' p => k _ _ _ p⟩
theorem PostT.trans {K : PySem.W.Frag} {F H F1 H1 F2 H2 : Hp} {S : List Addr} {σ σ1 σ2 : L2.St} {A A1 A2 : Nat → List Addr} {s1 s2 : St} (p : PostT K F H S σ σ1 A s1 F1 H1 A1) (q : PostT K F1 H1 S σ1 σ2 A1 s2 F2 H2 A2) : PostT K F H S σ σ2 A s2 F2 H2 A2 := ⟨p.step.trans q.step, q.rel⟩
theorem PostT.post {K : PySem.W.Frag} {F H F1 H1 F2 H2 : Hp} {S : List Addr} {σ : L2.St} {A A1 A2 : Nat → List Addr} {s1 s2 : St} {o : O} {v : V} {B : List Addr} (p : PostT K F H S σ σ A s1 F1 H1 A1) (q : Post K F1 H1 S σ A1 o s2 v F2 H2 A2 B) : Post K F H S σ A o s2 v F2 H2 A2 B :=
  ⟨p.step.trans q.step, q.rel, q.own, q.nod, q.new⟩
theorem w_and1 {t : T} (ha : PT X a (tT Φ X.K t)) : PW X (.BoolOp .And [a] pos) (tT Φ X.K t) := pw_and1 ha
theorem w_and {t u : T} {rest : List Expr} (ha : PT X a (tT Φ X.K t)) (hb : PW X (.BoolOp .And (b :: rest) pos) (tT Φ X.K u)) : PW X (.BoolOp .And (a :: b :: rest) pos) (tT Φ X.K (.and t u)) := PW.imp (pw_and ha hb) fun σ H Q h => by
  obtain ⟨F, S, st, A, o, st', R, e, k⟩ := h
  rw [evT] at e
  obtain ⟨⟨x, s1⟩, h1, e⟩ := bindE e
  refine ⟨F, S, st, A, x, s1, R, h1, fun F' H' A' p => ?_⟩
  cases x with
  | true => exact ⟨F', S, s1, A', o, st', p.rel, e, fun F2 H2 A2 q => k _ _ _ (p.trans q)⟩
  | false => cases e; exact k _ _ _ p
theorem w_or {t u : T} {rest : List Expr} (ha : PT X a (tT Φ X.K t)) (hb : PW X (.BoolOp .Or (b :: rest) pos) (tT Φ X.K u)) : PW X (.BoolOp .Or (a :: b :: rest) pos) (tT Φ X.K (.or t u)) := PW.imp (pw_or ha hb) fun σ H Q h => by
  obtain ⟨F, S, st, A, o, st', R, e, k⟩ := h
  rw [evT] at e
  obtain ⟨⟨x, s1⟩, h1, e⟩ := bindE e
  refine ⟨F, S, st, A, x, s1, R, h1, fun F' H' A' p => ?_⟩
  cases x with
  | false => exact ⟨F', S, s1, A', o, st', p.rel, e, fun F2 H2 A2 q => k _ _ _ (p.trans q)⟩
  | true => cases e; exact k _ _ _ p
theorem Post.seq {K : PySem.W.Frag} {F H F1 H1 F2 H2 : Hp} {S : List Addr} {σ : L2.St} {A A1 A2 : Nat → List Addr} {x o : O} {s1 s2 : St} {v w : V} {B C : List Addr} (p : Post K F H S σ A x s1 v F1 H1 A1 B) (q : Post K F1 H1 S σ A1 o s2 w F2 H2 A2 C) : Post K F H S σ A o s2 w F2 H2 A2 C := p.test.post q
theorem e_and {rest : List Expr} (ha : PE X a (tE Φ X.K ea)) (hb : PE X (.BoolOp .And (b :: rest) pos) (tE Φ X.K eb)) : PE X (.BoolOp .And (a :: b :: rest) pos) (tE Φ X.K (.and ea eb)) := PE.imp (pe_and ha hb) fun σ H Q h => by
  obtain ⟨F, S, st, A, o, st', R, e, k⟩ := h
  rw [evE] at e
  obtain ⟨⟨x, s1⟩, h1, e⟩ := bindE e
  refine one_read R h1 fun v F' H' A' B p => ?_
  dsimp only at e
  split at e
  · obtain rfl := own_bl p.own
    exact ⟨true, rfl, F', S, s1, A', o, st', p.rel, e, fun v2 F2 H2 A2 B2 q => k _ _ _ _ _ (p.seq q)⟩
  · cases e
    obtain rfl := own_bl p.own
    exact ⟨false, rfl, k _ _ _ _ _ (p.res1 (.val p.rel.same fun F => .bl _))⟩
  · cases e
theorem e_or {rest : List Expr} (ha : PE X a (tE Φ X.K ea)) (hb : PE X (.BoolOp .Or (b :: rest) pos) (tE Φ X.K eb)) : PE X (.BoolOp .Or (a :: b :: rest) pos) (tE Φ X.K (.or ea eb)) := PE.imp (L2.pe_or ha hb) fun σ H Q h => by
  obtain ⟨F, S, st, A, o, st', R, e, k⟩ := h
  rw [evE] at e
  obtain ⟨⟨x, s1⟩, h1, e⟩ := bindE e
  refine one_read R h1 fun v F' H' A' B p => ?_
  dsimp only at e
  split at e
  · cases e
    obtain rfl := own_bl p.own
    exact ⟨true, rfl, k _ _ _ _ _ (p.res1 (.val p.rel.same fun F => .bl _))⟩
  · obtain rfl := own_bl p.own
    exact ⟨false, rfl, F', S, s1, A', o, st', p.rel, e, fun v2 F2 H2 A2 B2 q => k _ _ _ _ _ (p.seq q)⟩
  · cases e
theorem e_not (ha : PE X a (tE Φ X.K ea)) : PE X (.UnaryOp .Not a pos) (tE Φ X.K (.not (.v ea))) := PE.imp (pe_notT ha) fun σ H Q h => by
  obtain ⟨F, S, st, A, o, st', R, e, k⟩ := h
  rw [evE, evT] at e
  obtain ⟨⟨t, s1⟩, h1, e⟩ := mapE e
  cases e
  obtain ⟨⟨x, s2⟩, h1, e⟩ := bindE h1
  obtain ⟨u, hu, e⟩ := bindE e
  obtain ⟨b1, hb, e⟩ := mapE e
  cases e
  exact one_read R h1 fun v F' H' A' B p => ⟨t, tru_of p.rel.same (vw_ok p.rel p.own hu) hb, k _ _ _ _ _ (p.res1 (.val p.rel.same fun F => .bl _))⟩
theorem e_ife {t : T} (hc : PT X c (tT Φ X.K t)) (ha : PE X a (tE Φ X.K ea)) (hb : PE X b (tE Φ X.K eb)) : PE X (.IfExp c a b pos) (tE Φ X.K (.ife t ea eb)) := PE.imp (pe_ifExp hc ha hb) fun σ H Q h => by
  obtain ⟨F, S, st, A, o, st', R, e, k⟩ := h
  rw [evE] at e
  obtain ⟨⟨x, s1⟩, h1, e⟩ := bindE e
  refine ⟨F, S, st, A, x, s1, R, h1, fun F' H' A' p => ?_⟩
  cases x with
  | true => exact ⟨F', S, s1, A', o, st', p.rel, e, fun v F2 H2 A2 B q => k _ _ _ _ _ (p.post q)⟩
  | false => exact ⟨F', S, s1, A', o, st', p.rel, e, fun v F2 H2 A2 B q => k _ _ _ _ _ (p.post q)⟩
end
end Vm


set_option Elab.async false
set_option linter.all false
set_option maxRecDepth 100000
/-! Vm, part 11: lists of expressions, displays, subscripts, built-in calls, calls. -/
namespace Vm
open PySem PySem.Spec PyProof.Rows L2

section
variable {K : PySem.W.Frag} {F H F1 H1 F2 H2 : Hp} {S : List Addr} {σ : L2.St} {A A1 A2 : Nat → List Addr} {st s1 s2 : St}
theorem PostL.nil (R : Rel K F H S σ st A) : PostL K F H S σ A [] st [] F H A [] := ⟨Step.refl.weak fun b h => h.elim id (fun z => nomatch z), R, .nil, List.nodup_nil, fun _ z => nomatch z⟩
theorem OwnAll.past {F' H' : Hp} {W W' : Addr → Prop} {os : List O} {vs : List V} {B : List Addr} (st : Step F H W F' H' W') (h : OwnAll K F H S σ os vs B) (hB : ∀ b ∈ B, ¬ W b) : OwnAll K F' H' S σ os vs B := by
  induction h with
  | nil => exact .nil
  | cons h t ih => exact .cons (h.past st fun b hb => hB b (List.mem_append_left _ hb)) (ih fun b hb => hB b (List.mem_append_right _ hb))
theorem PostL.cons {o : O} {v : V} {B C : List Addr} {os : List O} {vs : List V} (p : Post K F H S σ A o s1 v F1 H1 A1 B) (q : PostL K F1 H1 S σ A1 os s2 vs F2 H2 A2 C) : PostL K F H S σ A (o :: os) s2 (v :: vs) F2 H2 A2 (B ++ C) := by
  have sn := side_new q.step fun b hb => p.new b hb
  refine ⟨(p.step.trans (q.step.side (fun b => b ∈ B))).weak fun b h => ?_, q.rel, .cons (p.own.past q.step fun b hb => (p.new b hb).2.1) q.own, ?_, fun b hb => ?_⟩
  · rcases h with h | h
    · exact .inl (.inl h)
    · rcases List.mem_append.mp h with h | h
      · exact .inr h
      · exact .inl (.inr h)
  · refine List.nodup_append.mpr ⟨p.nod, q.nod, fun x hx y hy z => ?_⟩
    subst z
    exact (sn x hx).2.1 (.inr hy)
  · rcases List.mem_append.mp hb with h | h
    · exact ⟨(sn b h).1, fun z => (sn b h).2.1 (.inl z), (sn b h).2.2⟩
    · exact q.new b h

/-! ### freezing -/
theorem own_dat {o : O} {v : V} {B : List Addr} {x : PyData} (s : Same F H) (h : OwnAt K F H S σ o v B) (e : o.dat = some x) : Den K (absorb F H B) v x := by
  cases o with
  | d y => cases e; obtain ⟨_, h⟩ := h; exact h.mono (absorb_fr s)
  | pt xs => cases e; obtain ⟨_, a, vs, ob, rfl, h1, h2, h3, h4⟩ := h; exact .ftup (absorb_fr s _ _ h1) h2 h3 (h4.mono (absorb_fr s))
  | lst xs =>
    obtain ⟨_, h⟩ := OwnAt.frz s h rfl
    cases e
    exact h
  | mat rows =>
    obtain ⟨_, h⟩ := OwnAt.frz s h rfl
    cases e
    exact h
  | dct t kvs =>
    cases t with
    | true => cases e
    | false =>
      cases kvs with
      | cons a b => cases e
      | nil =>
        cases e
        obtain ⟨a, rfl, rfl, hk, h1, h2⟩ := h
        cases h2
        exact .dk0 (by rw [absorb_in List.mem_cons_self]; exact h1)
  | fdct t kvs => cases e
  | src => cases e
  | bor i => cases e
theorem ownAll_dat {os : List O} {vs : List V} {B : List Addr} {xs : List PyData} (s : Same F H) (h : OwnAll K F H S σ os vs B) (e : datAll os = some xs) : DenAll K (absorb F H B) vs xs := by
  induction h generalizing xs with
  | nil => cases e; exact .nil
  | @cons o v B os vs Bs h t ih =>
    unfold datAll at e
    obtain ⟨x, e1, e⟩ := bindE e
    obtain ⟨xs', e2, e⟩ := mapE e
    cases e
    exact .cons ((own_dat s h e1).mono (absorb_mono s fun b hb => List.mem_append_left _ hb)) ((ih e2).mono (absorb_mono s fun b hb => List.mem_append_right _ hb))
theorem ownAll_frz {os qs : List O} {vs : List V} {B : List Addr} (s : Same F H) (h : OwnAll K F H S σ os vs B) (e : frzAll os = some qs) : Paired (fun o v => OwnAt K (absorb F H B) H S σ o v []) qs vs := by
  induction h generalizing qs with
  | nil => cases e; exact .nil
  | @cons o v B os vs Bs h t ih =>
    unfold frzAll at e
    obtain ⟨x, e1, e⟩ := bindE e
    obtain ⟨xs', e2, e⟩ := mapE e
    cases e
    refine .cons ((OwnAt.frz s h e1).keep (absorb_mono s fun b hb => List.mem_append_left _ hb) fun _ z => nomatch z) ?_
    exact Paired.mapP (ih e2) fun _ _ z => z.keep (absorb_mono s fun b hb => List.mem_append_right _ hb) fun _ z => nomatch z
theorem step_frz {W : Addr → Prop} {B : List Addr} (st : Step F H W F1 H1 (fun b => Ow S A1 b ∨ b ∈ B)) (s : Same F1 H1) : Step F H W (absorb F1 H1 B) H1 (Ow S A1) :=
  st.trans (absorb_step s (fun b hb => .inr hb) (fun b hb => .inl hb))
theorem PostL.dats {os : List O} {vs : List V} {B : List Addr} {xs : List PyData} (p : PostL K F H S σ A os s1 vs F1 H1 A1 B) (e : datAll os = some xs) : PostT K F H S σ σ A s1 (absorb F1 H1 B) H1 A1 ∧ DenAll K (absorb F1 H1 B) vs xs :=
  ⟨⟨step_frz p.step p.rel.same, p.rel.absorb fun b hb => (p.new b hb).2.1⟩, ownAll_dat p.rel.same p.own e⟩
theorem PostL.frzs {os qs : List O} {vs : List V} {B : List Addr} (p : PostL K F H S σ A os s1 vs F1 H1 A1 B) (e : frzAll os = some qs) : PostT K F H S σ σ A s1 (absorb F1 H1 B) H1 A1 ∧ Paired (fun o v => OwnAt K (absorb F1 H1 B) H1 S σ o v []) qs vs :=
  ⟨⟨step_frz p.step p.rel.same, p.rel.absorb fun b hb => (p.new b hb).2.1⟩, ownAll_frz p.rel.same p.own e⟩
theorem Post.dat1 {o : O} {v : V} {B : List Addr} {x : PyData} (p : Post K F H S σ A o s1 v F1 H1 A1 B) (e : o.dat = some x) : PostT K F H S σ σ A s1 (absorb F1 H1 B) H1 A1 ∧ Den K (absorb F1 H1 B) v x :=
  ⟨⟨step_frz p.step p.rel.same, p.rel.absorb fun b hb => (p.new b hb).2.1⟩, own_dat p.rel.same p.own e⟩
theorem PostT.res {o : O} {v : V} {B : List Addr} (p : PostT K F H S σ σ A s1 F1 H1 A1) (q : ResAt K F1 H1 o v F2 H2 B) : Post K F H S σ A o s1 v F2 H2 A1 B := Post.res p.step (fun _ h => h) p.rel q
theorem PostL.views {os : List O} {vs : List V} {B : List Addr} {us : List Vw} (p : PostL K F H S σ A os s1 vs F1 H1 A1 B) (e : vwAll s1 os = some us) : VwsAt K F1 H1 vs us := by
  have h := p.own
  have R := p.rel
  clear p
  induction h generalizing us with
  | nil => cases e; exact .nil
  | cons h t ih =>
    unfold vwAll at e
    obtain ⟨u, e1, e⟩ := bindE e
    obtain ⟨us', e2, e⟩ := mapE e
    cases e
    exact .cons (vw_ok R h e1) (ih e2)
theorem PostL.res {os : List O} {vs : List V} {B C : List Addr} {o : O} {v : V} (p : PostL K F H S σ A os s1 vs F1 H1 A1 B) (q : ResAt K F1 H1 o v F2 H2 C) : Post K F H S σ A o s1 v F2 H2 A1 C := Post.res p.step (fun _ h => .inl h) p.rel q
end

section
variable {X : Cx} {Φ : Fs} {a b c : Expr} {as : List Expr} {ea eb ec : E} {es : Es} {pos : Pos}
theorem a_nil : PA X [] (tEs Φ X.K .nil) := PA.imp pa_nil fun σ H Q h => by
  obtain ⟨F, S, st, A, os, st', R, e, k⟩ := h
  rw [evEs] at e
  cases e
  exact k _ _ _ _ _ (.nil R)
theorem a_cons (ha : PE X a (tE Φ X.K ea)) (hr : PA X as (tEs Φ X.K es)) (hs : starEach (a :: as) X.env = (false, eval a X.env) :: starEach as X.env) : PA X (a :: as) (tEs Φ X.K (.cons ea es)) := PA.imp (pa_cons ha hr hs) fun σ H Q h => by
  obtain ⟨F, S, st, A, os, st', R, e, k⟩ := h
  rw [evEs] at e
  obtain ⟨⟨o, s1⟩, h1, e⟩ := bindE e
  obtain ⟨⟨os', s2⟩, h2, e⟩ := mapE e
  cases e
  exact ⟨F, S, st, A, o, s1, R, h1, fun v F1 H1 A1 B p => ⟨F1, S, s1, A1, os', _, p.rel, h2, fun vs F2 H2 A2 C q => k _ _ _ _ _ (PostL.cons p q)⟩⟩
theorem PostL.len {K : PySem.W.Frag} {F H F1 H1 : Hp} {S : List Addr} {σ : L2.St} {os : List O} {vs : List V} {B : List Addr} (h : OwnAll K F H S σ os vs B) : os.length = vs.length := by
  induction h with
  | nil => rfl
  | cons _ _ ih => simp [ih]
theorem e_tup {k : Nat} (h : PA X as (tEs Φ X.K es)) : PE X (.Tuple as k pos) (tE Φ X.K (.tup es)) := PE.imp (pe_tup h) fun σ H Q h => by
  obtain ⟨F, S, st, A, o, st', R, e, k⟩ := h
  rw [evE] at e
  obtain ⟨⟨os, s1⟩, h1, e⟩ := bindE e
  dsimp only at e
  split at e
  · rename_i hz
    obtain ⟨xs, h2, e⟩ := mapE e
    cases e
    refine ⟨F, S, st, A, os, _, R, h1, fun vs F1 H1 A1 B p => ⟨by rw [← PostL.len (F1 := F) (H1 := H) p.own]; exact hz, fun q hq => ?_⟩⟩
    obtain ⟨t, d⟩ := p.dats h2
    exact k _ _ _ _ _ (t.res (.tup t.rel.same hq d))
  · cases e
theorem e_lst (h : PA X as (tEs Φ X.K es)) : PE X (.List as pos) (tE Φ X.K (.lst es)) := PE.imp (pe_lst h) fun σ H Q h => by
  obtain ⟨F, S, st, A, o, st', R, e, k⟩ := h
  rw [evE] at e
  obtain ⟨⟨os, s1⟩, h1, e⟩ := bindE e
  dsimp only at e
  split at e
  · rename_i hz
    obtain ⟨xs, h2, e⟩ := mapE e
    cases e
    refine ⟨F, S, st, A, os, _, R, h1, fun vs F1 H1 A1 B p => ⟨by rw [← PostL.len (F1 := F) (H1 := H) p.own]; exact hz, fun q hq => ?_⟩⟩
    obtain ⟨t, d⟩ := p.dats h2
    exact k _ _ _ _ _ (t.res (.lst t.rel.same hq d))
  · cases e

/-! ### subscripts -/
theorem e_idx (hu : X.A.units + 66 < cLine) (ha : PE X a (tE Φ X.K ea)) (hb : PE X b (tE Φ X.K eb)) (hs : PlainIx b) : PE X (.Subscript a b pos) (tE Φ X.K (.idx ea eb)) := PE.imp (PE.or (pe_ix ix_seq ha hb hs) (pe_dget (by omega) ha hb hs)) fun σ H Q h => by
  obtain ⟨F, S, st, A, o, st', R, e, k⟩ := h
  rw [evE] at e
  obtain ⟨⟨x, s1⟩, h1, e⟩ := bindE e
  obtain ⟨⟨y, s2⟩, h2, e⟩ := bindE e
  obtain ⟨u, hu, e⟩ := bindE e
  obtain ⟨w, hw, e⟩ := bindE e
  obtain ⟨r, hr, e⟩ := mapE e
  cases e
  unfold idxSem at hr
  split at hr
  all_goals try contradiction
  · obtain ⟨d, e1, rfl⟩ := mapE hr
    refine .inl (two_read R h1 h2 fun v v' F' H' A' B C p => ?_)
    obtain ⟨a', vs, rfl, h1, h2⟩ := (vw_ok p.rel p.ownx hu).list p.rel.same
    obtain rfl := (vw_ok p.rel p.owny hw).int
    obtain ⟨v, e2, e3⟩ := atI_den h2 e1
    exact .inl ⟨a', vs, _, v, rfl, rfl, .of h1, e2, k _ _ _ _ _ (p.res (.old p.rel.same e3))⟩
  · obtain ⟨d, e1, rfl⟩ := mapE hr
    refine .inl (two_read R h1 h2 fun v v' F' H' A' B C p => ?_)
    obtain ⟨a', vs, rfl, _, h1, h2⟩ := (vw_ok p.rel p.ownx hu).tup p.rel.same
    obtain rfl := (vw_ok p.rel p.owny hw).int
    obtain ⟨v, e2, e3⟩ := atI_den h2 e1
    exact .inr (.inl ⟨a', vs, _, v, rfl, rfl, h1.sq, e2, k _ _ _ _ _ (p.res (.old p.rel.same e3))⟩)
  · obtain ⟨q, e1, hr⟩ := bindE hr
    split at hr
    · rename_i z
      obtain ⟨d, e2, rfl⟩ := mapE hr
      refine .inr (two_read R h1 h2 fun v v' F' H' A' B C p => ?_)
      obtain ⟨a', rfl, hd⟩ := vw_ok p.rel p.ownx hu
      obtain ⟨o, g, f⟩ := dget_of p.rel.same hd e1 z ((vw_ok p.rel p.owny hw).key e1)
      rw [e2] at f
      cases o with
      | none => exact f.elim
      | some v => exact ⟨a', v, rfl, g, k _ _ _ _ _ (p.res (.old p.rel.same f))⟩
    · cases hr
theorem PO.imp {e : Option Expr} {t t' : TO} (h : PO X e t) (i : ∀ σ H Q, t' σ H Q → t σ H Q) : PO X e t' := ⟨fun pins s σ H Q I q => h.run pins s σ H Q I (i σ H Q q)⟩
theorem p_no : PO X none (tOe Φ X.K .no) := PO.imp po_none fun σ H Q h => by
  obtain ⟨F, S, st, A, o, st', R, e, k⟩ := h
  rw [evOe] at e
  cases e
  exact k _ _ _ (.here R)
theorem p_yes (h : PE X a (tE Φ X.K ea)) : PO X (some a) (tOe Φ X.K (.yes ea)) := PO.imp (po_some h) fun σ H Q h => by
  obtain ⟨F, S, st, A, o, st', R, e, k⟩ := h
  rw [evOe] at e
  obtain ⟨⟨x, s1⟩, h1, e⟩ := bindE e
  dsimp only at e
  refine one_read R h1 fun v F' H' A' B p => ?_
  split at e
  · cases e
    exact ⟨_, own_int p.own, k _ _ _ p.test⟩
  · cases e
theorem e_slc {lo hi : Option Expr} {el eh : Oe} {p2 : Pos} (ha : PE X a (tE Φ X.K ea)) (hl : PO X lo (tOe Φ X.K el)) (hh : PO X hi (tOe Φ X.K eh)) : PE X (.Subscript a (.Slice lo hi none p2) pos) (tE Φ X.K (.slc ea el eh)) := PE.imp (pe_slice slc_ok ha hl hh) fun σ H Q h => by
  obtain ⟨F, S, st, A, o, st', R, e, k⟩ := h
  rw [evE] at e
  obtain ⟨⟨x, s1⟩, h1, e⟩ := bindE e
  obtain ⟨⟨l, s2⟩, h2, e⟩ := bindE e
  obtain ⟨⟨h, s3⟩, h3, e⟩ := bindE e
  obtain ⟨u, hu, e⟩ := bindE e
  obtain ⟨r, hr, e⟩ := mapE e
  cases e
  refine one_read R h1 fun v F1 H1 A1 B p => ⟨F1, S, s1, A1, l, s2, p.rel, h2, fun F2 H2 A2 q => ⟨F2, S, s2, A2, h, _, q.rel, h3, fun F3 H3 A3 q3 => ?_⟩⟩
  have sn1 := side_new q.step fun b hb => ⟨(p.new b hb).1, (p.new b hb).2.1, (p.new b hb).2.2⟩
  have ow := (p.own.past q.step fun b hb => (p.new b hb).2.1).past q3.step fun b hb => (sn1 b hb).2.1
  exact ⟨F3, u, o, q3.rel.same, vw_ok q3.rel ow hu, hr, fun v2 F4 H4 D q4 => k _ _ _ _ _ (p.test.post (q.post (q3.res q4)))⟩
end
end Vm


set_option Elab.async false
set_option linter.all false
set_option maxRecDepth 100000
/-! Vm, part 12: a tuple backwards. -/
namespace Vm
open PySem PySem.Spec PyProof.Rows L2

section
variable {prog : Program} {w : World} {A : Around} {E : Value → Shared → Prop} {s : Shared}
theorem adjust_back (n : Nat) : Builtin.Slice.sliceAdjust none none (-1) (n : Int) = ((n : Int) - 1, -1) := by
  unfold Builtin.Slice.sliceAdjust
  simp
theorem places_back (n : Nat) : Builtin.Slice.slicePlaces ((n : Int) - 1) (-1) (-1) = n := by
  unfold Builtin.Slice.slicePlaces
  simp only [show ¬ ((-1 : Int) > 0) by decide, if_false]
  split
  · rw [show (- -1 : Int) = 1 by decide, Int.ediv_one]; omega
  · omega
theorem sliced_back {sl : Addr} {vl vu vs : Value} {n : Nat} {Q : Int × Int × Nat → Shared → Prop} (hs : s.heap.IsSliceOf sl vl vu vs) (pl : IsPart vl none) (pu : IsPart vu none) (ps : IsPart vs (some (-1)))
    (h : Q ((n : Int) - 1, -1, n) s) : wpAny (model prog w) A (Builtin.Slice.sliceApplied (.ref sl) (pure (n : Int))) Q E s := by
  obtain ⟨os, hos, hcs, hds⟩ := id hs
  unfold Builtin.Slice.sliceApplied Builtin.Slice.sliceFields
  refine wpAny_bind (wpAny_bind (wpAny_field hos hds (x := vl) rfl (wpAny_bind (wpAny_field hos hds (x := vu) rfl (wpAny_bind (wpAny_field hos hds (x := vs) rfl (wpAny_pure ?_)))))))
  refine wpAny_bind (HT.slicePart_ ps ?_)
  show wpAny _ _ (if ((-1 : Int) == 0) = true then _ else _) _ _ s
  rw [if_neg (by decide)]
  refine wpAny_bind (HT.slicePart_ pl (wpAny_bind (HT.slicePart_ pu (wpAny_bind (wpAny_pure ?_)))))
  show wpAny _ _ (match Builtin.Slice.sliceAdjust none none (-1) (n : Int) with | (lo, hi) => pure (lo, (-1 : Int), Builtin.Slice.slicePlaces lo hi (-1))) _ _ s
  rw [adjust_back]
  show wpAny _ _ (pure ((n : Int) - 1, (-1 : Int), Builtin.Slice.slicePlaces ((n : Int) - 1) (-1) (-1))) _ _ s
  rw [places_back]
  exact wpAny_pure h
theorem fm_congr {α β : Type} {f g : α → Option β} : ∀ {l : List α}, (∀ x ∈ l, f x = g x) → l.filterMap f = l.filterMap g
  | [], _ => rfl
  | x :: l, h => by
    rw [List.filterMap_cons, List.filterMap_cons, h x List.mem_cons_self, fm_congr fun y hy => h y (List.mem_cons_of_mem _ hy)]
theorem pick_back (xs : Array Value) : ((List.range xs.size).filterMap fun (m : Nat) => xs[((xs.size : Int) - 1 + (m : Int) * -1).toNat]?).toArray = xs.toList.reverse.toArray := by
  congr 1
  have e : ∀ m ∈ List.range xs.size, xs[((xs.size : Int) - 1 + (m : Int) * -1).toNat]? = (xs.toList.reverse)[m]? := fun m hm => by
    have hm := List.mem_range.mp hm
    rw [List.getElem?_reverse (by simpa using hm)]
    simp only [Array.length_toList, Array.getElem?_toList]
    congr 1
    omega
  rw [fm_congr e]
  have h := PySem.W.krv_all xs.toList.reverse.toArray
  simpa using h
theorem getItem_tuple_back {t sl : Addr} {items : Array Value} {vl vu vs : Value} {Q : Value → Shared → Prop} (ht : IsTup s.heap t items) (hs : s.heap.IsSliceOf sl vl vu vs) (pl : IsPart vl none) (pu : IsPart vu none) (ps : IsPart vs (some (-1)))
    (h : Q (.ref s.heap.objs.size) { s with heap := s.heap.push { cls := .type "tuple", data := .seq items.toList.reverse.toArray } }) (hsz : items.size ≤ sizeLine) : wpAny (model prog w) A (getItem (.ref t) (.ref sl)) Q E s := by
  have htake : sizeOk (.seq items.toList.reverse.toArray) := by
    show items.toList.reverse.toArray.size ≤ sizeLine
    simpa using hsz
  obtain ⟨os, hos, hcs, hds⟩ := id hs
  have hTs : s.TypeIs (.ref sl) "slice" := ⟨os, hos, hcs⟩
  unfold getItem
  try with_reducible refine wpAny_holding ?_
  first | refine wpAny_bind (wpAny_pure ?_) | skip
  refine wpAny_bind (wpAny_sequenceKey ht.typeIs (by decide) ?_)
  refine wpAny_bind (wpAny_callSpecial?_slot (name := Str.ofString "__getitem__") ht.typeIs PyProof.Rows.slot_tuple_getitem
    (wpAny_call_entry PyProof.Rows.slot_tuple_getitem ht.typeIs entry_tuple_getitem ?_ (args_tuple_getitem _ _)))
  show wpAny _ _ (Builtin.Tuple.tupleItemsOf (.ref t) >>= _) _ _ s
  refine wpAny_bind (tupleItemsOf_ ht ?_)
  refine wpAny_bind (wpAny_typeOf hTs ?_)
  rw [if_pos (by decide)]
  refine wpAny_bind (sliced_back (n := items.size) hs pl pu ps ?_)
  have hno : ¬ ((((items.size : Int) - 1) == 0 && (-1 : Int) == 1 && items.size == items.size) = true) := by
    rw [show ((-1 : Int) == 1) = false by decide, Bool.and_false, Bool.false_and]
    exact Bool.false_ne_true
  show wpAny _ _ (if (((items.size : Int) - 1) == 0 && (-1 : Int) == 1 && items.size == items.size) = true then _ else _) _ _ s
  rw [if_neg hno, pick_back]
  first
    | exact wpAny_bind (m := Builtin.Tuple.tupleExact _) (wpAny_newObj_type (wpAny_pure ⟨_, rfl, wpAny_pure h⟩) htake)
    | exact wpAny_bind (m := Builtin.Tuple.tupleExact _) (wpAny_newObj_type (wpAny_bind (wpAny_pure (wpAny_pure ⟨_, rfl, wpAny_pure h⟩))) htake)
    | exact wpAny_bind (wpAny_bind (m := Builtin.Tuple.tupleExact _) (wpAny_newObj_type (wpAny_pure (wpAny_pure ⟨_, rfl, wpAny_pure h⟩)) htake))
    | exact wpAny_bind (wpAny_bind (m := Builtin.Tuple.tupleExact _) (wpAny_newObj_type (wpAny_pure ⟨_, rfl, wpAny_pure h⟩) htake))
end

section
variable {X : Cx} {Φ : Fs} {a : Expr} {ea : E} {pos : Pos}
/-- e[::-1], a tuple -/
def tRevT (K : PySem.W.Frag) (te : TE) : TE := fun σ H Q => te σ H fun x H1 => ∃ a xs, x = .ref a ∧ SqT K H1 a xs ∧ ∀ p, H1 p = none → Q (.ref p) (upd H1 p (.tup xs.reverse))
theorem pe_revT {e : Expr} {te : TE} {k : Nat} {p1 p2 p3 pos : Pos} (he : PE X e te) : PE X (.Subscript e (.Slice none none (some (.UnaryOp .USub (.Constant (.int 1) k p1) p2)) p3) pos) (tRevT X.K te) := by
  refine ⟨fun pins s σ H Q I h => ?_⟩
  refine Subscript_ (thn (he.run pins s σ H _ I h) fun v s1 ⟨x, H1, I1, r1, q1⟩ => ?_)
  obtain ⟨a, xs, ex, hx, q⟩ := q1
  subst ex
  cases r1
  have hst : PO X (some (.UnaryOp .USub (.Constant (.int 1) k p1) p2)) (tPart (tUn (rU fun i => .int (-i)) (tC (.int 1)))) := po_some (pe_un un_neg pe_int)
  refine wpAny_Slice (thn (po_none.run pins s1 σ H1 (fun o H2 => o = none ∧ H2 = H1) I1 ⟨rfl, rfl⟩) fun vl s2 ⟨l, H2, I2, pl, el, e2⟩ => ?_)
  subst el e2
  refine thn (po_none.run pins s2 σ H2 (fun o H3 => o = none ∧ H3 = H2) I2 ⟨rfl, rfl⟩) fun vu s3 ⟨u, H3, I3, pu, eu, e3⟩ => ?_
  subst eu e3
  refine thn (hst.run pins s3 σ H3 (fun o H4 => o = some (-1) ∧ H4 = H3) I3 ⟨1, rfl, -1, rfl, rfl, rfl⟩) fun vs s4 ⟨o, H4, I4, ps, eo, e4⟩ => ?_
  subst eo e4
  have I5 : Inv X pins σ H4 { s4 with heap := s4.heap.push { cls := .type "slice", data := .fields #[vl, vu, vs] } } := I4.kept (t' := s4.toks) fun b ob q => Heap.get?_push_of_some _ q
  obtain ⟨its, r, ht, hz⟩ := I5.tuple hx
  have hlen := r.length
  show wpAny (model X.prog X.w) X.A (subscriptTail e (.Slice none none (some (.UnaryOp .USub (.Constant (.int 1) k p1) p2)) p3) (.ref a) (.ref s4.heap.objs.size)) (EP X pins σ Q) X.xe { s4 with heap := s4.heap.push { cls := .type "slice", data := .fields #[vl, vu, vs] } }
  refine tail_any (ops := [.ref a, .ref s4.heap.objs.size]) ht.typeIs (PyProof.Rows.slot_tuple_getitem.lookup) ?_ (by with_unfolding_all rfl)
  refine getItem_tuple_back ht (Heap.IsSliceOf.new _ vl vu vs) pl pu ps ?_ (by rw [List.size_toArray]; omega)
  refine ⟨.ref _, _, I5.laid (t' := s4.toks) (o := .tup xs.reverse) (fun b ob q => Heap.get?_push_of_some _ q) (Nat.le_refl _) ?_, rfl, q _ (I5.hok.fresh (Nat.le_refl _))⟩
  exact ⟨by rw [List.length_reverse]; exact hz, _, r.reverse, IsTup.new _ _⟩
theorem e_rev {k : Nat} {p1 p2 p3 : Pos} (ha : PE X a (tE Φ X.K ea)) : PE X (.Subscript a (.Slice none none (some (.UnaryOp .USub (.Constant (.int 1) k p1) p2)) p3) pos) (tE Φ X.K (.rev ea)) := PE.imp (PE.or (pe_revL ha) (pe_revT ha)) fun σ H Q h => by
  obtain ⟨F, S, st, A, o, st', R, e, k⟩ := h
  rw [evE] at e
  obtain ⟨⟨x, s1⟩, h1, e⟩ := bindE e
  obtain ⟨u, hu, e⟩ := bindE e
  obtain ⟨r, hr, e⟩ := mapE e
  cases e
  unfold revSem at hr
  split at hr
  · cases hr
    refine .inl (one_read R h1 fun v F' H' A' B p => ?_)
    obtain ⟨a', vs, rfl, h1, h2⟩ := (vw_ok p.rel p.own hu).list p.rel.same
    exact ⟨a', vs, rfl, .of h1, fun q hq => k _ _ _ _ _ (p.res1 (.lst p.rel.same hq h2.reverse))⟩
  · cases hr
    refine .inr (one_read R h1 fun v F' H' A' B p => ?_)
    obtain ⟨a', vs, rfl, _, h1, h2⟩ := (vw_ok p.rel p.own hu).tup p.rel.same
    exact ⟨a', vs, rfl, h1.sq, fun q hq => k _ _ _ _ _ (p.res1 (.tup p.rel.same hq h2.reverse))⟩
  · cases hr
end
end Vm


set_option Elab.async false
set_option linter.all false
set_option maxRecDepth 100000
/-! Vm, part 13: calls of built-ins, of the law's own functions. -/
namespace Vm
open PySem PySem.Spec PyProof.Rows L2

section
variable {X : Cx} {Φ : Fs} {a b c : Expr} {as : List Expr} {ea eb ec : E} {es : Es} {pos p : Pos}
theorem prim_read {pr : Prim} {σ : L2.St} {H : Hp} {Q : VK} (h : tE Φ X.K (.fn pr es) σ H Q) : tCB (rP X.K pr) (tEs Φ X.K es) σ H Q := by
  obtain ⟨F, S, st, A, o, st', R, e, k⟩ := h
  rw [evE] at e
  obtain ⟨⟨os, s1⟩, h1, e⟩ := bindE e
  obtain ⟨us, hu, e⟩ := bindE e
  obtain ⟨r, hr, e⟩ := mapE e
  cases e
  exact ⟨F, S, st, A, os, _, R, h1, fun vs F1 H1 A1 B q => ⟨F1, us, o, q.rel.same, q.views hu, hr, fun v F' H' B' z => k _ _ _ _ _ (q.res z)⟩⟩
theorem e_callB {id : String} {x : Str} {pr : Prim} (hc : CallR X (.builtin id) (rP X.K pr)) (hg : Gl X x) (hm : X.mg x = none) (hv : bootBuiltins x = some (.builtin id)) (ha : PA X (a :: as) (tEs Φ X.K es)) (hn : x ≠ "__name__") (hdb : (x == ("__debug__" : Str)) = false)
    (he : starEach (a :: as) X.env = (false, eval a X.env) :: starEach as X.env) (hpl : (backTo pos (starEach as X.env)).any (·.1) = false) : PE X (.Call (.Name x p) (a :: as) [] pos) (tE Φ X.K (.fn pr es)) :=
  PE.imp (pe_callB hc hg hm hv ha hn hdb he hpl) fun σ H Q h => prim_read h
theorem e_callTy {T : String} {x : Str} {pr : Prim} (hc : CallR X (.type T) (rP X.K pr)) (hg : Gl X x) (hm : X.mg x = none) (hv : bootBuiltins x = some (.type T)) (ha : PA X (a :: as) (tEs Φ X.K es)) (hn : x ≠ "__name__") (hdb : (x == ("__debug__" : Str)) = false)
    (he : starEach (a :: as) X.env = (false, eval a X.env) :: starEach as X.env) (hpl : (backTo pos (starEach as X.env)).any (·.1) = false) : PE X (.Call (.Name x p) (a :: as) [] pos) (tE Φ X.K (.fn pr es)) :=
  PE.imp (pe_callTy hc hg hm hv ha hn hdb he hpl) fun σ H Q h => prim_read h
/-- isinstance(e, T) -/
theorem e_isi {T : String} {x y : Str} {py : Pos} (hg : Gl X x) (hm : X.mg x = none) (hv : bootBuiltins x = some (.builtin "isinstance")) (ha : PE X a (tE Φ X.K ea)) (gy : Gl X y) (my : X.mg y = none) (vy : bootBuiltins y = some (.type T))
    (hn : x ≠ "__name__") (hdb : (x == ("__debug__" : Str)) = false) (ny : y ≠ "__name__") (ydb : (y == ("__debug__" : Str)) = false)
    (he : starEach [a, .Name y py] X.env = (false, eval a X.env) :: starEach [.Name y py] X.env) : PE X (.Call (.Name x p) [a, .Name y py] [] pos) (tE Φ X.K (.fn (.isi T) (.cons ea .nil))) := by
  have h2 : PA X [Expr.Name y py] (tCons (tC (.ty T)) tNil) := pa_cons (pe_bltn gy my vy rfl ny ydb) pa_nil rfl
  refine PE.imp (pe_callB (isi_ok T) hg hm hv (pa_cons ha h2 he) hn hdb he rfl) fun σ H Q h => ?_
  obtain ⟨F, S, st, A, o, st', R, e, k⟩ := h
  rw [evE] at e
  obtain ⟨⟨os, s1⟩, h1, e⟩ := bindE e
  obtain ⟨us, hu, e⟩ := bindE e
  obtain ⟨r, hr, e⟩ := mapE e
  cases e
  rw [evEs] at h1
  obtain ⟨⟨o1, s2⟩, h1, e⟩ := bindE h1
  obtain ⟨⟨os', s3⟩, h2, e⟩ := mapE e
  rw [evEs] at h2
  cases h2
  cases e
  unfold vwAll at hu
  obtain ⟨u, hv1, e⟩ := bindE hu
  obtain ⟨us', hu', e⟩ := mapE e
  cases hu'
  cases e
  refine one_read R h1 fun v F' H' A' B q => ⟨F', v, u, o, rfl, q.rel.same, vw_ok q.rel q.own hv1, hr, fun v2 F2 H2 D z => k _ _ _ _ _ (q.res1 z)⟩
/-! ### dicts -/
theorem e_dnew {t : Bool} : PE X (.Dict [] [] pos) (tE Φ X.K (.dnew t)) := by
  cases t with
  | false =>
    refine PE.imp pe_dnewK fun σ H Q h => ?_
    obtain ⟨F, S, st, A, o, st', R, e, k⟩ := h
    rw [evE] at e
    cases e
    refine fun q hq => k _ _ _ _ _ ((PostT.here R).res ⟨Grow.new R.same hq, ⟨q, rfl, rfl, [], upd_same, .nil⟩, by simp, fun b hb => ?_⟩)
    have eb : b = q := by simpa using hb
    subst eb
    exact ⟨hq, R.same.free hq, .inr (.inl ⟨_, upd_same⟩)⟩
  | true =>
    refine PE.imp pe_dnewT fun σ H Q h => ?_
    obtain ⟨F, S, st, A, o, st', R, e, k⟩ := h
    rw [evE] at e
    cases e
    refine fun q hq => k _ _ _ _ _ ((PostT.here R).res ⟨Grow.new R.same hq, ⟨q, rfl, rfl, [], upd_same, .nil⟩, by simp, fun b hb => ?_⟩)
    have eb : b = q := by simpa using hb
    subst eb
    exact ⟨hq, R.same.free hq, .inr (.inr ⟨_, upd_same⟩)⟩
theorem seqP_ok {K : PySem.W.Frag} {F H : Hp} {S : List Addr} {σ : L2.St} {st : St} {A : Nat → List Addr} {o : O} {v : V} {B : List Addr} {xs : List PyData} (R : Rel K F H S σ st A) (h : OwnAt K F H S σ o v B) (e : seqP st o = some xs) :
    ∃ a vs, v = .ref a ∧ (SqL K H a vs ∨ ∃ ob, H a = some (.frz ob (.tup vs)) ∧ ob.dict = none) ∧ DenAll K F vs xs := by
  unfold seqP at e
  split at e
  all_goals try contradiction
  · cases e
    obtain ⟨_, a, vs, ob, rfl, h1, h2, _, h4⟩ := (show _ ∧ _ from h)
    exact ⟨a, vs, rfl, .inr ⟨ob, R.same _ _ h1, h2⟩, h4⟩
  · cases e
    obtain ⟨a, vs, rfl, _, h1, h2⟩ := (show ∃ a vs, _ from h)
    exact ⟨a, vs, rfl, .inl (.of h1), h2⟩
  · cases e
    obtain ⟨_, h⟩ := (show _ ∧ _ from h)
    cases h with
    | lst h1 h2 => exact ⟨_, _, rfl, .inl (.of (R.same _ _ h1)), h2⟩
  · rename_i i
    split at e
    · rename_i xs' q
      cases e
      obtain ⟨v', h1, h2⟩ := R.slots i _ q
      have e1 : σ[i]? = some (some v) := (show _ ∧ _ from h).2
      rw [h1] at e1
      cases e1
      obtain ⟨a, vs, rfl, _, h3, h4⟩ := (show ∃ a vs, _ from h2)
      exact ⟨a, vs, rfl, .inl (.of h3), h4⟩
    · cases e
theorem e_dof {x : Str} (hc : X.calm = true) (hu : X.A.units + 66 < cLine) (hg : Gl X x) (hm : X.mg x = none) (hv : bootBuiltins x = some (.type "dict")) (ha : PE X a (tE Φ X.K ea)) (hn : x ≠ "__name__") (hdb : (x == ("__debug__" : Str)) = false)
    (he : starEach [a] X.env = (false, eval a X.env) :: starEach [] X.env) : PE X (.Call (.Name x p) [a] [] pos) (tE Φ X.K (.dof true ea)) := by
  refine PE.imp (pe_callTy (dictT_ok hc hu) hg hm hv (pa_cons ha pa_nil he) hn hdb he rfl) fun σ H Q h => ?_
  obtain ⟨F, S, st, A, o, st', R, e, k⟩ := h
  rw [evE] at e
  obtain ⟨⟨x, s1⟩, h1, e⟩ := bindE e
  dsimp only at e
  rw [if_pos rfl] at e
  obtain ⟨xs, h2, e⟩ := bindE e
  obtain ⟨ps, h3, e⟩ := bindE e
  obtain ⟨kvs, h4, e⟩ := mapE e
  cases e
  refine one_read R h1 fun v F' H' A' B q => ?_
  obtain ⟨a', vs, rfl, hq, hd⟩ := seqP_ok q.rel q.own h2
  exact ⟨F', a', vs, xs, ps, kvs, rfl, q.rel.same, hq, hd, h3, h4, fun v2 F2 H2 D z => k _ _ _ _ _ (q.res1 z)⟩
theorem fnd_getD {K : PySem.W.Frag} {F : Hp} {o : Option V} {q : Option PyData} {z : V} {d : PyData} (f : Fnd K F o q) (h : Den K F z d) : Den K F (o.getD z) (q.getD d) := by
  cases o <;> cases q
  · exact h
  · exact f.elim
  · exact f.elim
  · exact f
theorem e_get2 {apos : Pos} (hu : X.A.units + 66 < cLine) (ho : PE X a (tE Φ X.K ea)) (he : PE X b (tE Φ X.K eb)) (hf : PE X c (tE Φ X.K ec)) (m : M2 X a "get" apos b c pos) : PE X (.Call (.Attribute a "get" apos) [b, c] [] pos) (tE Φ X.K (.mt .get2 ea (.cons eb (.cons ec .nil)))) := PE.imp (pe_dget2 (by omega) ho he hf m) fun σ H Q h => by
  obtain ⟨F, S, st, A, o, st', R, e, k⟩ := h
  rw [evE] at e
  obtain ⟨⟨x, s1⟩, h1, e⟩ := bindE e
  obtain ⟨u0, hu0, e⟩ := bindE e
  split at e
  case isFalse => cases e
  rename_i hty
  obtain ⟨⟨os, s2⟩, h2, e⟩ := bindE e
  obtain ⟨us, hus, e⟩ := bindE e
  obtain ⟨r, hr, e⟩ := mapE e
  cases e
  rw [evEs] at h2
  obtain ⟨⟨y, s3⟩, g2, e⟩ := bindE h2
  obtain ⟨⟨os', s4⟩, g3, e⟩ := mapE e
  cases e
  rw [evEs] at g3
  obtain ⟨⟨z, s5⟩, g4, e⟩ := bindE g3
  obtain ⟨⟨os2, s6⟩, g5, e⟩ := mapE e
  cases e
  rw [evEs] at g5
  cases g5
  unfold vwAll at hus
  obtain ⟨ux, hux, e⟩ := bindE hus
  obtain ⟨us2, e2, e⟩ := mapE e
  cases e
  unfold vwAll at e2
  obtain ⟨uy, huy, e⟩ := bindE e2
  obtain ⟨us3, e3, e⟩ := mapE e
  cases e
  unfold vwAll at e3
  obtain ⟨uz, huz, e⟩ := bindE e3
  obtain ⟨us4, e4, e⟩ := mapE e
  cases e
  cases e4
  refine one_read R h1 fun v F1 H1 A1 B1 q1 => ?_
  have ev0 := vw_ok q1.rel q1.own hu0
  obtain ⟨t0, kv0, rfl⟩ : ∃ t kvs, u0 = .dct t kvs := by
    cases u0 with
    | dct t kvs => exact ⟨t, kvs, rfl⟩
    | d x => cases hty
    | h x => cases hty
  obtain ⟨a', rfl, hd0⟩ := ev0
  refine ⟨a', rfl, hd0.isD, one_read q1.rel g2 fun v2 F2 H2 A2 B2 q2 => one_read q2.rel g4 fun v3 F3 H3 A3 B3 q3 => ?_⟩
  have P2 : Post2 X.K F H S σ A x y s3 (.ref a') v2 F2 H2 A2 B1 B2 := q1.two q2
  have sx := side_new q2.step fun b hb => q1.new b hb
  have sx3 := side_new q3.step fun b hb => P2.newB b hb
  have ox := P2.ownx.past q3.step fun b hb => (P2.newB b hb).2.1
  have oy := P2.owny.past q3.step fun b hb => (P2.newC b hb).2.1
  have wx := vw_ok q3.rel ox hux
  have wy := vw_ok q3.rel oy huy
  have wz := vw_ok q3.rel q3.own huz
  unfold mtSem at hr
  split at hr
  · cases ‹Mt.get2 = Mt.get1›
  · rename_i t kvs dx dy em eus
    cases eus
    obtain ⟨kk, ek, hr⟩ := bindE hr
    split at hr
    · rename_i ht
      cases hr
      obtain ⟨a2, ea2, hd⟩ := wx
      cases ea2
      obtain ⟨ov, g, f⟩ := dget_of q3.rel.same hd ek ht (wy.key ek)
      obtain rfl := wz.int
      exact ⟨ov, g, k _ _ _ _ _ (((q1.seq q2).seq q3).res1 (.old q3.rel.same (fnd_getD f (.int _))))⟩
    · cases hr
  · cases hr
end
end Vm


set_option Elab.async false
set_option linter.all false
set_option maxRecDepth 100000
/-! Vm, part 14: what a function promises; calls. -/
namespace Vm
open PySem PySem.Spec PyProof.Rows L2

def Args (K : PySem.W.Frag) (F H : Hp) (S : List Addr) (os : List O) (vs : List V) : Prop := Paired (fun o v => OwnAt K F H S [] o v []) os vs
/-- a function that gives a value and keeps what stands -/
def spP (K : PySem.W.Frag) (n : Nat) (φ : PFn) : Sp := fun vs H Q _ => vs.length = n ∧ ∃ F os r, Same F H ∧ Args K F H [] os vs ∧ φ os = some r ∧ ∀ v F' H' B, ResAt K F H r v F' H' B → Q v H'
/-- the value r stands; the source has been drawn from -/
structure ResS (K : PySem.W.Frag) (F H : Hp) (S : List Addr) (r : O) (src' : Src) (v : V) (F' H' : Hp) (B : List Addr) : Prop where
  step : Step F H (fun b => b ∈ S) F' H' (fun b => b ∈ S ∨ b ∈ B)
  same : Same F' H'
  src : SrcRel F' H' S (some src')
  own : OwnAt K F' H' S [] r v B
  nod : B.Nodup
  new : ∀ b ∈ B, H b = none ∧ F' b = none ∧ Mu H' b
def spS (K : PySem.W.Frag) (n : Nat) (φ : SFn) : Sp := fun vs H Q _ => vs.length = n ∧ ∃ F S src os r src', Same F H ∧ SrcRel F H S (some src) ∧ Args K F H S os vs ∧ φ os src = some (r, src') ∧ ∀ v F' H' B, ResS K F H S r src' v F' H' B → Q v H'

section
variable {K : PySem.W.Frag} {F H F1 H1 F2 H2 : Hp} {S : List Addr} {σ : L2.St} {A A1 A2 : Nat → List Addr} {st s1 : St}
theorem OwnAt.bare {o : O} {v : V} {B : List Addr} (h : OwnAt K F H S σ o v B) (f : o.free = true) : OwnAt K F H [] [] o v B := h.any f
theorem OwnAt.unslot {o : O} {v : V} {B : List Addr} (h : OwnAt K F H S σ o v B) (f : ∀ i, o ≠ .bor i) : OwnAt K F H S [] o v B := by
  cases o with
  | bor i => exact absurd rfl (f i)
  | d x => exact h
  | pt xs => exact h
  | lst xs => exact h
  | mat rows => exact h
  | dct t kvs => exact h
  | fdct t kvs => exact h
  | src => exact h
theorem OwnAt.reslot {o : O} {v : V} {B : List Addr} (h : OwnAt K F H S [] o v B) : OwnAt K F H S σ o v B := by
  cases o with
  | bor i => have e := h.2; simp at e
  | d x => exact h
  | pt xs => exact h
  | lst xs => exact h
  | mat rows => exact h
  | dct t kvs => exact h
  | fdct t kvs => exact h
  | src => exact h
theorem frz_nobor {o o' : O} (e : o.frz = some o') : ∀ i, o' ≠ .bor i := by
  intro i z
  subst z
  cases o <;> cases e
theorem frzAll_nobor : ∀ {os qs : List O}, frzAll os = some qs → ∀ q ∈ qs, ∀ i, q ≠ .bor i
  | [], _, e => by cases e; intro q h; cases h
  | o :: os, qs, e => by
    unfold frzAll at e
    obtain ⟨x, e1, e⟩ := bindE e
    obtain ⟨xs, e2, e⟩ := mapE e
    cases e
    intro q h
    rcases List.mem_cons.mp h with h | h
    · subst h; exact frz_nobor e1
    · exact frzAll_nobor e2 q h
theorem args_S {os : List O} {vs : List V} (h : Paired (fun o v => OwnAt K F H S σ o v []) os vs) (n : ∀ q ∈ os, ∀ i, q ≠ .bor i) : Args K F H S os vs :=
  Paired.mapM h fun o v ho z => z.unslot (n o ho)
theorem args_P {os : List O} {vs : List V} (h : Paired (fun o v => OwnAt K F H S σ o v []) os vs) (n : os.all O.free = true) : Args K F H [] os vs :=
  Paired.mapM h fun o v ho z => z.bare (List.all_eq_true.mp n o ho)
/-- the state's relation, the source drawn from -/
theorem Rel.drawn {src' : Src} {r : O} {v : V} {B : List Addr} (R : Rel K F H S σ st A) (q : ResS K F H S r src' v F1 H1 B) : Rel K F1 H1 S σ { st with src := some src' } A where
  same := q.same
  slots := fun i o e => let ⟨v, h1, h2⟩ := R.slots i o e; ⟨v, h1, h2.past q.step fun b hb => (R.out i b hb).2.1⟩
  nobor := R.nobor
  nod := R.nod
  dis := R.dis
  out := fun i b hb => by
    obtain ⟨h1, h2, h3⟩ := R.out i b hb
    have h3' : Mu H1 b := h3.keep fun o e => q.step.keep b o e h2
    refine ⟨?_, h2, h3'⟩
    cases z : F1 b with
    | none => rfl
    | some u =>
      rcases q.step.frz b (ne_none_of z) with y | y | y
      · exact absurd h1 y
      · exact absurd y h2
      · exact (h3.noFre y).elim
  emp := R.emp
  src := q.src
  len := R.len
theorem Post.drawn {src' : Src} {r : O} {v : V} {B : List Addr} (p : PostT K F H S σ σ A s1 F1 H1 A1) (q : ResS K F1 H1 S r src' v F2 H2 B) : Post K F H S σ A r { s1 with src := some src' } v F2 H2 A1 B := by
  refine ⟨?_, p.rel.drawn q, q.own.reslot, q.nod, fun b hb => ⟨(q.new b hb).2.1, fun z => ?_, (q.new b hb).2.2⟩⟩
  · refine (p.step.trans (show Step F1 H1 (Ow S A1) F2 H2 (fun b => (b ∈ S ∨ b ∈ B) ∨ ∃ i, b ∈ A1 i) from q.step.side (fun b => ∃ i, b ∈ A1 i))).weak fun b h => ?_
    rcases h with (h | h) | h
    · exact .inl (.inl h)
    · exact .inr h
    · exact .inl (.inr h)
  · have hn := (q.new b hb).1
    rcases z with z | ⟨i, z⟩
    · have rs := p.rel.src
      cases hs : s1.src with
      | none => rw [hs] at rs; have rs : S = [] := rs; rw [rs] at z; cases z
      | some s =>
        rw [hs] at rs
        obtain ⟨sa, ca, e, _, _, h1, h2⟩ := rs
        rw [e] at z
        rcases List.mem_cons.mp z with z | z
        · rw [z, h1] at hn; cases hn
        · have z : b = ca := by simpa using z
          rw [z, h2] at hn; cases hn
    · exact (p.rel.out i b z).2.2.ne hn
end

section
variable {X : Cx} {Φ : Fs} {a : Expr} {as : List Expr} {es : Es} {pos p : Pos} {x f : Str} {n k : Nat}
theorem e_call {φ : PFn} (hΦ : Φ.p f = some (n, φ)) (c : C8.Cal X.prog X.w X.K X.mg X.base k x (spP X.K n φ) []) {j : Nat} (hr : Room j X.A) (hk : k ≤ j) (hg : Gl X x) (ha : PA X (a :: as) (tEs Φ X.K es))
    (hdb : (x == ("__debug__" : Str)) = false) (he : starEach (a :: as) X.env = (false, eval a X.env) :: starEach as X.env) (hpl : (backTo pos (starEach as X.env)).any (·.1) = false) :
    PE X (.Call (.Name x p) (a :: as) [] pos) (tE Φ X.K (.call f es)) := PE.imp (C8.pe_c c hr hk hg ha hdb he hpl) fun σ H Q h => by
  obtain ⟨F, S, st, A, o, st', R, e, k⟩ := h
  rw [evE] at e
  obtain ⟨⟨os, s1⟩, h1, e⟩ := bindE e
  obtain ⟨qs, h2, e⟩ := bindE e
  rw [hΦ] at e
  dsimp only at e
  split at e
  · rename_i hn
    obtain ⟨r, h3, e⟩ := mapE e
    cases e
    refine ⟨F, S, st, A, os, _, R, h1, fun vs F1 H1 A1 B q => ?_⟩
    obtain ⟨t, d⟩ := q.frzs h2
    refine ⟨?_, _, qs, o, t.rel.same, ?_, h3, fun v F' H' B' z => k _ _ _ _ _ (t.res z)⟩
    · rw [List.append_nil, ← Paired.len d]; exact hn.1
    · rw [List.append_nil]; exact args_P d hn.2
  · cases e
theorem e_calls {φ : SFn} (hΦ : Φ.s f = some (n, φ)) (c : C8.Cal X.prog X.w X.K X.mg X.base k x (spS X.K n φ) []) {j : Nat} (hr : Room j X.A) (hk : k ≤ j) (hg : Gl X x) (ha : PA X (a :: as) (tEs Φ X.K es))
    (hdb : (x == ("__debug__" : Str)) = false) (he : starEach (a :: as) X.env = (false, eval a X.env) :: starEach as X.env) (hpl : (backTo pos (starEach as X.env)).any (·.1) = false) :
    PE X (.Call (.Name x p) (a :: as) [] pos) (tE Φ X.K (.calls f es)) := PE.imp (C8.pe_c c hr hk hg ha hdb he hpl) fun σ H Q h => by
  obtain ⟨F, S, st, A, o, st', R, e, k⟩ := h
  rw [evE] at e
  obtain ⟨⟨os, s1⟩, h1, e⟩ := bindE e
  obtain ⟨qs, h2, e⟩ := bindE e
  rw [hΦ] at e
  dsimp only at e
  cases hs : s1.src with
  | none => rw [hs] at e; cases e
  | some src =>
    rw [hs] at e
    dsimp only at e
    split at e
    · rename_i hn
      obtain ⟨⟨r, src'⟩, h3, e⟩ := mapE e
      cases e
      refine ⟨F, S, st, A, os, _, R, h1, fun vs F1 H1 A1 B q => ?_⟩
      obtain ⟨t, d⟩ := q.frzs h2
      refine ⟨?_, _, S, src, qs, r, src', t.rel.same, ?_, ?_, h3, fun v F' H' B' z => k _ _ _ _ _ (Post.drawn t z)⟩
      · rw [List.append_nil, ← Paired.len d]; exact hn
      · rw [← hs]; exact t.rel.src
      · rw [List.append_nil]; exact args_S d (frzAll_nobor h2)
    · cases e
end
end Vm


set_option Elab.async false
set_option linter.all false
set_option maxRecDepth 100000
/-! Vm, part 15: what is walked. -/
namespace Vm
open PySem PySem.Spec PyProof.Rows L2

/-- the walk gives these, one by one -/
def Dlv (K : PySem.W.Frag) (J : L2.It) (xs : List PyData) (F : Hp) : Prop := ∀ F1 H1, Same F F1 → Same F1 H1 → ∀ i,
  (∀ d, xs[i]? = some d → J.go i H1 ∧ ∀ x H2, J.yld i H1 x H2 → ∃ F2, Grow F1 H1 F2 H2 ∧ Den K F2 x d) ∧ (xs.length ≤ i → J.stop i H1)
def tIt (Φ : Fs) (K : PySem.W.Frag) (it : Vm.It) : TI := fun σ H R => ∃ F S st A xs st', Rel K F H S σ st A ∧ evIt Φ it st = some (xs, st') ∧ ∀ J F' H' A', PostT K F H S σ σ A st' F' H' A' → Dlv K J xs F' → R J H'
theorem PI.imp {X : Cx} {tg e : Expr} {t t' : TI} (h : PI X tg e t) (i : ∀ σ H Q, t' σ H Q → t σ H Q) : PI X tg e t' := ⟨fun pins s σ H Q I q => h.run pins s σ H Q I (i σ H Q q)⟩
theorem PI.or {X : Cx} {tg e : Expr} {t t' : TI} (h : PI X tg e t) (h' : PI X tg e t') : PI X tg e (fun σ H Q => t σ H Q ∨ t' σ H Q) := ⟨fun pins s σ H Q I q => q.elim (h.run pins s σ H Q I) (h'.run pins s σ H Q I)⟩

theorem lst_uniq {K : PySem.W.Frag} {H : Hp} {a : Addr} {vs ws : List V} (h : H a = some (.lst vs)) (q : Rd H a (.lst ws)) : ws = vs := by
  rcases q with q | ⟨o, q⟩
  · rw [h] at q; cases q; rfl
  · rw [h] at q; cases q
section
variable {K : PySem.W.Frag} {F : Hp}
/-- the end of a walk over a sequence: what Itl, Itt say, where only the tracked object tells -/
theorem dlv_list {a : Addr} {vs : List V} {ds : List PyData} (h : F a = some (.lst vs)) (hd : DenAll K F vs ds) : Dlv K (Itl K a) ds F := by
  intro F1 H1 e1 e2 i
  have h1 := e2 _ _ (e1 _ _ h)
  refine ⟨fun d hi => ?_, fun hi => ⟨vs, .of h1, by rw [hd.length]; exact hi⟩⟩
  obtain ⟨v, hv, dv⟩ := hd.get hi
  refine ⟨⟨vs, v, .of h1, hv⟩, fun x H2 y => ?_⟩
  obtain ⟨rfl, y⟩ := y
  have := y vs (.of h1)
  rw [hv] at this
  cases this
  exact ⟨F1, Grow.refl e2, dv.mono e1⟩
theorem dlv_tup {a : Addr} {vs : List V} {ds : List PyData} (h : TpAt F a vs) (hd : DenAll K F vs ds) : Dlv K (Itt K a) ds F := by
  intro F1 H1 e1 e2 i
  have h1 := (h.mono e1).mono e2
  refine ⟨fun d hi => ?_, fun hi => ⟨vs, h1.sq, by rw [hd.length]; exact hi⟩⟩
  obtain ⟨v, hv, dv⟩ := hd.get hi
  refine ⟨⟨vs, v, h1.sq, hv⟩, fun x H2 y => ?_⟩
  obtain ⟨rfl, y⟩ := y
  have := y vs h1.sq
  rw [hv] at this
  cases this
  exact ⟨F1, Grow.refl e2, dv.mono e1⟩
theorem rngD_get {a : Int} {n i : Nat} {d : PyData} (h : (rngD a n)[i]? = some d) : i < n ∧ d = .int (a + i) := by
  unfold rngD at h
  rw [List.getElem?_map] at h
  by_cases z : i < n
  · rw [List.getElem?_range z] at h
    exact ⟨z, (Option.some.inj h).symm⟩
  · rw [List.getElem?_eq_none (by simpa using z)] at h
    cases h
theorem dlv_rng {a : Int} {n : Nat} : Dlv K (Itr a n) (rngD a n) F := by
  intro F1 H1 e1 e2 i
  refine ⟨fun d hi => ?_, fun hi => show n ≤ i by simpa [rngD] using hi⟩
  obtain ⟨z, rfl⟩ := rngD_get hi
  refine ⟨z, fun x H2 y => ?_⟩
  obtain ⟨rfl, rfl⟩ := y
  exact ⟨F1, Grow.refl e2, .int _⟩
theorem zipD_get : ∀ {xs ys : List PyData} {i : Nat} {d : PyData}, (zipD xs ys)[i]? = some d → ∃ x y, xs[i]? = some x ∧ ys[i]? = some y ∧ d = .tuple [x, y]
  | [], _, _, _, h => by simp [zipD] at h
  | _ :: _, [], _, _, h => by simp [zipD] at h
  | x :: xs, y :: ys, 0, d, h => ⟨x, y, rfl, rfl, by simpa [zipD] using h.symm⟩
  | x :: xs, y :: ys, i + 1, d, h => by
    obtain ⟨u, w, h1, h2, h3⟩ := zipD_get (xs := xs) (ys := ys) (i := i) (d := d) (by simpa [zipD] using h)
    exact ⟨u, w, by simpa using h1, by simpa using h2, h3⟩
theorem zipD_len : ∀ {xs ys : List PyData} {i : Nat}, (zipD xs ys).length ≤ i → xs.length ≤ i ∨ ys.length ≤ i
  | [], _, _, _ => .inl (Nat.zero_le _)
  | _ :: _, [], _, _ => .inr (Nat.zero_le _)
  | x :: xs, y :: ys, 0, h => by simp [zipD] at h
  | x :: xs, y :: ys, i + 1, h => by
    rcases zipD_len (xs := xs) (ys := ys) (i := i) (by simpa [zipD] using h) with h | h
    · exact .inl (by simpa using h)
    · exact .inr (by simpa using h)
theorem dlv_zipT {a b : Addr} {vs ws : List V} {xs ys : List PyData} (h : TpAt F a vs) (h' : TpAt F b ws) (hd : DenAll K F vs xs) (hd' : DenAll K F ws ys) : Dlv K (RZ.ItzT K a b) (zipD xs ys) F := by
  intro F1 H1 e1 e2 i
  have h1 := (h.mono e1).mono e2
  have h2 := (h'.mono e1).mono e2
  refine ⟨fun d hi => ?_, fun hi => ⟨vs, ws, h1.sq, h2.sq, ?_⟩⟩
  · obtain ⟨x, y, hx, hy, rfl⟩ := zipD_get hi
    obtain ⟨v, hv, dv⟩ := hd.get hx
    obtain ⟨w, hw, dw⟩ := hd'.get hy
    refine ⟨⟨vs, ws, v, w, h1.sq, h2.sq, hv, hw⟩, fun z H2 q => ?_⟩
    obtain ⟨T, x', y', rfl, hT, rfl, f1, f2⟩ := q
    have a1 := f1 vs h1.sq
    have a2 := f2 ws h2.sq
    rw [hv] at a1
    rw [hw] at a2
    cases a1
    cases a2
    have g : Grow F1 H1 (upd F1 T (.tup [v, w])) (upd H1 T (.tup [v, w])) := Grow.newF e2 hT
    exact ⟨_, g, .tup upd_same (.cons (dv.mono (e1.trans g.fr)) (.cons (dw.mono (e1.trans g.fr)) .nil))⟩
  · rw [hd.length, hd'.length]
    exact zipD_len hi
theorem dlv_zipL {a b : Addr} {vs ws : List V} {xs ys : List PyData} (h : F a = some (.lst vs)) (h' : F b = some (.lst ws)) (hd : DenAll K F vs xs) (hd' : DenAll K F ws ys) : Dlv K (Itz K a b) (zipD xs ys) F := by
  intro F1 H1 e1 e2 i
  have h1 := e2 _ _ (e1 _ _ h)
  have h2 := e2 _ _ (e1 _ _ h')
  refine ⟨fun d hi => ?_, fun hi => ⟨vs, ws, .of h1, .of h2, ?_⟩⟩
  · obtain ⟨x, y, hx, hy, rfl⟩ := zipD_get hi
    obtain ⟨v, hv, dv⟩ := hd.get hx
    obtain ⟨w, hw, dw⟩ := hd'.get hy
    refine ⟨⟨vs, ws, v, w, .of h1, .of h2, hv, hw⟩, fun z H2 q => ?_⟩
    obtain ⟨T, x', y', rfl, hT, rfl, f1, f2⟩ := q
    have a1 := f1 vs (.of h1)
    have a2 := f2 ws (.of h2)
    rw [hv] at a1
    rw [hw] at a2
    cases a1
    cases a2
    have g : Grow F1 H1 (upd F1 T (.tup [v, w])) (upd H1 T (.tup [v, w])) := Grow.newF e2 hT
    exact ⟨_, g, .tup upd_same (.cons (dv.mono (e1.trans g.fr)) (.cons (dw.mono (e1.trans g.fr)) .nil))⟩
  · rw [hd.length, hd'.length]
    exact zipD_len hi
theorem Den.lst_of {v : V} {ds : List PyData} (h : Den K F v (.list ds)) : ∃ a vs, v = .ref a ∧ F a = some (.lst vs) ∧ DenAll K F vs ds := by
  cases h with
  | lst h1 h2 => exact ⟨_, _, rfl, h1, h2⟩
theorem Den.tup_of {v : V} {ds : List PyData} (h : Den K F v (.tuple ds)) : ∃ a vs, v = .ref a ∧ TpAt F a vs ∧ DenAll K F vs ds := by
  cases h with
  | tup h1 h2 => exact ⟨_, _, rfl, .inl h1, h2⟩
  | ftup h1 d n h2 => exact ⟨_, _, rfl, .inr ⟨_, h1, d⟩, h2⟩
end

section
variable {X : Cx} {Φ : Fs} {tg a b : Expr} {ea eb : E} {pos p : Pos}
theorem i_seq (ha : PE X a (tE Φ X.K ea)) : PI X tg a (tIt Φ X.K (.seq ea)) := PI.imp (PI.or (pi_list ha) (pi_tup ha)) fun σ H Q h => by
  obtain ⟨F, S, st, A, xs, st', R, e, k⟩ := h
  rw [evIt] at e
  obtain ⟨⟨x, s1⟩, h1, e⟩ := bindE e
  obtain ⟨o, h2, e⟩ := bindE e
  obtain ⟨ys, h3, e⟩ := mapE e
  cases e
  cases o with
  | list ds =>
    cases h3
    refine .inl (one_read R h1 fun v F' H' A' B q => ?_)
    obtain ⟨t, d⟩ := q.dat1 h2
    obtain ⟨a', vs, rfl, g1, g2⟩ := d.lst_of
    exact ⟨a', rfl, ⟨vs, .of (t.rel.same _ _ g1)⟩, k _ _ _ _ t (dlv_list g1 g2)⟩
  | tuple ds =>
    cases h3
    refine .inr (one_read R h1 fun v F' H' A' B q => ?_)
    obtain ⟨t, d⟩ := q.dat1 h2
    obtain ⟨a', vs, rfl, g1, g2⟩ := d.tup_of
    exact ⟨a', rfl, ⟨vs, (g1.mono t.rel.same).sq⟩, k _ _ _ _ t (dlv_tup g1 g2)⟩
  | none => cases h3
  | bool z => cases h3
  | int z => cases h3
  | str z => cases h3
  | dict z => cases h3
theorem bnd_of {i : Int} (h : inBnd i = true) : -(2 ^ 62) ≤ i ∧ i < 2 ^ 62 := by
  unfold inBnd at h
  rw [Bool.and_eq_true, decide_eq_true_eq, decide_eq_true_eq] at h
  exact h
theorem i_rng1 (hg : Gl X "range") (hm : X.mg "range" = none) (ha : PE X a (tE Φ X.K ea)) (hs : starEach [a] X.env = [(false, eval a X.env)]) : PI X tg (.Call (.Name "range" p) [a] [] pos) (tIt Φ X.K (.rng1 ea)) := PI.imp (pi_range1 hg hm (pa_cons ha pa_nil hs) hs) fun σ H Q h => by
  obtain ⟨F, S, st, A, xs, st', R, e, k⟩ := h
  rw [evIt] at e
  obtain ⟨⟨x, s1⟩, h1, e⟩ := bindE e
  refine one_read R h1 fun v F' H' A' B q => ?_
  dsimp only at e
  split at e
  · split at e
    · rename_i hb
      cases e
      obtain ⟨z1, z2⟩ := bnd_of hb
      exact ⟨_, by rw [own_int q.own], z1, z2, k _ _ _ _ q.test dlv_rng⟩
    · cases e
  · cases e
theorem i_rng2 (hg : Gl X "range") (hm : X.mg "range" = none) (ha : PE X a (tE Φ X.K ea)) (hb : PE X b (tE Φ X.K eb)) (hs : starEach [a, b] X.env = [(false, eval a X.env), (false, eval b X.env)]) (hs2 : starEach [b] X.env = [(false, eval b X.env)]) :
    PI X tg (.Call (.Name "range" p) [a, b] [] pos) (tIt Φ X.K (.rng2 ea eb)) := PI.imp (pi_range2 hg hm (pa_cons ha (pa_cons hb pa_nil hs2) (by rw [hs, hs2])) hs hs2) fun σ H Q h => by
  obtain ⟨F, S, st, A, xs, st', R, e, k⟩ := h
  rw [evIt] at e
  obtain ⟨⟨x, s1⟩, h1, e⟩ := bindE e
  obtain ⟨⟨y, s2⟩, h2, e⟩ := bindE e
  refine two_read R h1 h2 fun v w F' H' A' B C q => ?_
  dsimp only at e
  split at e
  · split at e
    · rename_i hb
      cases e
      rw [Bool.and_eq_true] at hb
      obtain ⟨z1, z2⟩ := bnd_of hb.1
      obtain ⟨z3, z4⟩ := bnd_of hb.2
      exact ⟨_, _, by rw [own_int q.ownx, own_int q.owny], ⟨z1, z2, z3, z4⟩, k _ _ _ _ ⟨q.step.weak fun _ h => .inl h, q.rel⟩ dlv_rng⟩
    · cases e
  · cases e
theorem two_dat {σ : L2.St} {H F : Hp} {S : List Addr} {st s1 s2 : St} {A : Nat → List Addr} {x y : O} {dx dy : PyData} (R : Rel X.K F H S σ st A) (h1 : evE Φ ea st = some (x, s1)) (h2 : evE Φ eb s1 = some (y, s2)) (hd : datAll [x, y] = some [dx, dy]) {Q : List V → Hp → Prop}
    (k : ∀ v w F' H' A', PostT X.K F H S σ σ A s2 F' H' A' → Den X.K F' v dx → Den X.K F' w dy → Q [v, w] H') : tCons (tE Φ X.K ea) (tCons (tE Φ X.K eb) tNil) σ H Q :=
  ⟨F, S, st, A, x, s1, R, h1, fun v F1 H1 A1 B p => ⟨F1, S, s1, A1, y, s2, p.rel, h2, fun w F2 H2 A2 C q => by
    obtain ⟨t, d⟩ := (PostL.cons p (PostL.cons q (PostL.nil q.rel))).dats hd
    cases d with
    | cons d1 d2 =>
      cases d2 with
      | cons d2 d3 => exact k v w _ _ _ t d1 d2⟩⟩
theorem i_zip {elts : List Expr} {kk : Nat} {tpos : Pos} (hg : Gl X "zip") (hm : X.mg "zip" = none) (ha : PE X a (tE Φ X.K ea)) (hb : PE X b (tE Φ X.K eb)) (hs : starEach [a, b] X.env = (false, eval a X.env) :: starEach [b] X.env) (hs2 : starEach [b] X.env = (false, eval b X.env) :: starEach [] X.env) (hpl : (backTo pos (starEach [b] X.env)).any (·.1) = false) :
    PI X (.Tuple elts kk tpos) (.Call (.Name "zip" p) [a, b] [] pos) (tIt Φ X.K (.zip ea eb)) := PI.imp (RZ.pi_zipA hg hm (pa_cons ha (pa_cons hb pa_nil hs2) hs) hs hpl) fun σ H Q h => by
  obtain ⟨F, S, st, A, xs, st', R, e, k⟩ := h
  rw [evIt] at e
  obtain ⟨⟨x, s1⟩, h1, e⟩ := bindE e
  obtain ⟨⟨y, s2⟩, h2, e⟩ := bindE e
  obtain ⟨ds, h3, e⟩ := bindE e
  obtain ⟨⟨us, ws⟩, h4, e⟩ := mapE e
  cases e
  unfold zip2 at h4
  split at h4
  · cases h4
    refine two_dat R h1 h2 h3 fun v w F' H' A' t d1 d2 => ?_
    obtain ⟨a1, vs1, rfl, g1, g2⟩ := d1.lst_of
    obtain ⟨a2, vs2, rfl, g3, g4⟩ := d2.lst_of
    exact ⟨a1, a2, vs1, vs2, rfl, .inl ⟨.of (t.rel.same _ _ g1), .of (t.rel.same _ _ g3), k _ _ _ _ t (dlv_zipL g1 g3 g2 g4)⟩⟩
  · cases h4
    refine two_dat R h1 h2 h3 fun v w F' H' A' t d1 d2 => ?_
    obtain ⟨a1, vs1, rfl, g1, g2⟩ := d1.tup_of
    obtain ⟨a2, vs2, rfl, g3, g4⟩ := d2.tup_of
    exact ⟨a1, a2, vs1, vs2, rfl, .inr ⟨(g1.mono t.rel.same).sq, (g3.mono t.rel.same).sq, k _ _ _ _ t (dlv_zipT g1 g3 g2 g4)⟩⟩
  · cases h4
end
end Vm


set_option Elab.async false
set_option linter.all false
set_option maxRecDepth 100000
set_option maxHeartbeats 2000000
/-! Vm: zip(.., strict=True) of two tuples. -/
namespace Vm
open PySem PySem.Spec PyProof.Rows L2

/-- the zip object, strict -/
def ZS (h : Heap) (z TI TO : Addr) (f0 : Value) : Prop :=
  h.get? z = some { cls := .type "zip", dict := none, data := .fields #[f0, .bool false, .bool true, .ref TI, .ref TO], slots := #[] }
section
variable {prog : Program} {w : World} {A : Around} {E : Value → Shared → Prop} {s : Shared}
theorem draw_item {it l : Addr} {i : Nat} {items : Array Value} {x : Value} {Q : Option Value → Shared → Prop} (hit : s.heap.IsTupleIter it l i) (hl : s.heap.IsTuple l items) (hx : items[i]? = some x)
    (hQ : ∀ h', h'.IsTupleIter it l (i + 1) → Heap.SameBut it s.heap h' → Q (some x) { s with heap := h' }) : wpAny (model prog w) A (Builtin.SmallTypes.nextOrEnd (.ref it)) Q E s := by
  unfold Builtin.SmallTypes.nextOrEnd
  exact wpAny_bind (wpAny_attempt (RZ.nextOf_tuple_item hit hl hx fun h' a b => wpAny_pure (hQ h' a b)))
theorem draw_end {it l : Addr} {i : Nat} {items : Array Value} {Q : Option Value → Shared → Prop} (hh : A.handled = none) (hit : s.heap.IsTupleIter it l i) (hl : s.heap.IsTuple l items) (hx : items[i]? = none)
    (hQ : ∀ h', Heap.ExtBut it s.heap h' → Q none { s with heap := h' }) : wpAny (model prog w) A (Builtin.SmallTypes.nextOrEnd (.ref it)) Q E s := by
  unfold Builtin.SmallTypes.nextOrEnd
  refine wpAny_bind (wpAny_attempt (RZ.nextOf_tuple_end hh hit hl hx fun h' e hk he => ?_))
  obtain ⟨o, ho, hc⟩ := he
  refine wpAny_bind (wpAny_isInstance (T := "StopIteration") (b := true) ⟨o, ho, hc⟩ isSubtype_stop ?_)
  exact wpAny_pure (hQ h' hk)
theorem zs_item {z TI TO i1 i2 l1 l2 : Addr} {k1 k2 : Nat} {xs ys : Array Value} {x y a b : Value} {Q : Value → Shared → Prop} (D : ZipApart z TI TO i1 i2 l1 l2)
    (hz : ZS s.heap z TI TO .none) (hTI : IsPair s.heap TI (.ref i1) (.ref i2)) (hTO : IsPair s.heap TO a b) (h1 : s.heap.IsTupleIter i1 l1 k1) (h2 : s.heap.IsTupleIter i2 l2 k2)
    (hl1 : s.heap.IsTuple l1 xs) (hl2 : s.heap.IsTuple l2 ys) (hx : xs[k1]? = some x) (hy : ys[k2]? = some y)
    (hQ : ∀ h', ZS h' z TI TO (rawInt s.heap.objs.size) → IsPair h' TO x y → h'.IsTupleIter i1 l1 (k1 + 1) → h'.IsTupleIter i2 l2 (k2 + 1) → IsPair h' s.heap.objs.size x y →
      (∀ c o, c ≠ z → c ≠ TO → c ≠ i1 → c ≠ i2 → s.heap.get? c = some o → h'.get? c = some o) → Q (.ref s.heap.objs.size) { s with heap := h' }) :
    wpAny (model prog w) A (Builtin.«zip.__next__» ⟨[.ref z], []⟩) (fun fin s' => ∃ v, fin = .done (.ret v) ∧ Q v s') E s := by
  show wpAny _ _ (field (.ref z) 2 >>= _) _ _ _
  refine wpAny_bind (wpAny_field hz rfl (x := .bool true) rfl ?_)
  show wpAny _ _ (field (.ref z) 3 >>= _) _ _ _
  refine wpAny_bind (wpAny_field hz rfl (x := .ref TI) rfl ?_)
  refine wpAny_bind (wpAny_seqItems hTI rfl ?_)
  show wpAny _ _ (Builtin.SmallTypes.ownedTupleIsFree (.ref z) >>= _) _ _ _
  refine wpAny_bind ?_
  unfold Builtin.SmallTypes.ownedTupleIsFree
  refine wpAny_bind (wpAny_field hz rfl (x := .none) rfl (wpAny_pure ?_))
  simp only [if_true]
  refine wpAny_bind (wpAny_rule ?_)
  refine wpAny_bind (wpAny_field hz rfl (x := .ref TO) rfl ?_)
  refine wpAny_bind (wpAny_setField_rec hz (by simp) fun h₁ hz₁ hs₁ => ?_)
  replace hz₁ : ZS h₁ z TI TO .ellipsis := hz₁
  refine wpAny_bind ?_
  simp only [List.zipIdx_cons, List.zipIdx_nil, List.forIn_cons, List.forIn_nil]
  -- the first
  refine wpAny_bind (wpAny_bind (wpAny_onRaise ?_))
  show wpAny _ _ (Builtin.SmallTypes.nextOrEnd (.ref i1)) _ _ _
  refine draw_item (h1.extBut hs₁.extBut D.i1z) (hl1.extBut hs₁.extBut D.l1z) hx fun h₂ h1₂ hs₂ => ?_
  have hTO₂ : IsPair h₂ TO a b := hs₂.extBut _ _ D.TOi1 (hs₁.extBut _ _ D.TOz hTO)
  refine wpAny_bind (wpAny_seqItems hTO₂ rfl ?_)
  refine wpAny_bind (wpAny_updateSeq_pair hTO₂ fun h₃ hTO₃ hs₃ => ?_)
  replace hTO₃ : IsPair h₃ TO x b := hTO₃
  refine wpAny_bind (wpAny_letGo (wpAny_pure ?_))
  -- the second
  refine wpAny_bind (wpAny_bind (wpAny_onRaise ?_))
  show wpAny _ _ (Builtin.SmallTypes.nextOrEnd (.ref i2)) _ _ _
  refine draw_item (((h2.extBut hs₁.extBut D.i2z).extBut hs₂.extBut D.i12.symm).extBut hs₃.extBut D.TOi2.symm) (((hl2.extBut hs₁.extBut D.l2z).extBut hs₂.extBut D.l2i1).extBut hs₃.extBut D.l2TO) hy fun h₄ h2₄ hs₄ => ?_
  have hTO₄ : IsPair h₄ TO x b := hs₄.extBut _ _ D.TOi2 hTO₃
  refine wpAny_bind (wpAny_seqItems hTO₄ rfl ?_)
  refine wpAny_bind (wpAny_updateSeq_pair hTO₄ fun h₅ hTO₅ hs₅ => ?_)
  replace hTO₅ : IsPair h₅ TO x y := hTO₅
  refine wpAny_bind (wpAny_letGo (wpAny_pure (wpAny_pure ?_)))
  -- the new pair
  refine wpAny_bind (wpAny_seqItems hTO₅ rfl ?_)
  refine wpAny_bind (wpAny_newTuple ?_)
  have hsz : h₅.objs.size = s.heap.objs.size := by rw [hs₅.1, hs₄.1, hs₃.1, hs₂.1, hs₁.1]
  have hz₅ : ZS h₅ z TI TO .ellipsis := hs₅.extBut _ _ D.TOz.symm (hs₄.extBut _ _ D.i2z.symm (hs₃.extBut _ _ D.TOz.symm (hs₂.extBut _ _ D.i1z.symm hz₁)))
  have hk₅ : ∀ c o, c ≠ z → c ≠ TO → c ≠ i1 → c ≠ i2 → s.heap.get? c = some o → h₅.get? c = some o := fun c o c1 c2 c3 c4 e => hs₅.extBut _ _ c2 (hs₄.extBut _ _ c4 (hs₃.extBut _ _ c2 (hs₂.extBut _ _ c3 (hs₁.extBut _ _ c1 e))))
  have h1₅ : h₅.IsTupleIter i1 l1 (k1 + 1) := ((h1₂.extBut hs₃.extBut D.TOi1.symm).extBut hs₄.extBut D.i12).extBut hs₅.extBut D.TOi1.symm
  have h2₅ : h₅.IsTupleIter i2 l2 (k2 + 1) := h2₄.extBut hs₅.extBut D.TOi2.symm
  have hzlt : z < h₅.objs.size := Heap.lt_size hz₅
  show wpAny _ _ (Builtin.SmallTypes.ownedTupleHandOut (.ref z) (.ref h₅.objs.size) >>= _) _ _ _
  refine wpAny_bind ?_
  unfold Builtin.SmallTypes.ownedTupleHandOut
  have hz₆ : ZS (h₅.push { cls := .type "tuple", data := .seq #[x, y] }) z TI TO .ellipsis := Heap.get?_push_of_some _ hz₅
  refine wpAny_bind (wpAny_setField_rec hz₆ (by simp) fun h₇ hz₇ hs₇ => ?_)
  replace hz₇ : ZS h₇ z TI TO (rawInt h₅.objs.size) := hz₇
  refine wpAny_setField_rec hz₇ (by simp) fun h₈ hz₈ hs₈ => ?_
  replace hz₈ : ZS h₈ z TI TO (rawInt h₅.objs.size) := hz₈
  have up : ∀ c o, c ≠ z → h₅.get? c = some o → h₈.get? c = some o := fun c o c1 e => hs₈.extBut _ _ c1 (hs₇.extBut _ _ c1 (Heap.get?_push_of_some _ e))
  have hT₈ : IsPair h₈ h₅.objs.size x y := hs₈.extBut _ _ (Nat.ne_of_gt hzlt) (hs₇.extBut _ _ (Nat.ne_of_gt hzlt) (Heap.get?_push_size _ rfl))
  rw [hsz] at hz₈ hT₈
  refine wpAny_pure ⟨_, rfl, ?_⟩
  show Q (.ref h₅.objs.size) _
  rw [hsz]
  exact hQ h₈ hz₈ (up _ _ D.TOz hTO₅) (h1₅.at fun o e => up _ o D.i1z e) (h2₅.at fun o e => up _ o D.i2z e) hT₈ fun c o c1 c2 c3 c4 e => up c o c1 (hk₅ c o c1 c2 c3 c4 e)
theorem zs_end {z TI TO i1 i2 l1 l2 : Addr} {k1 k2 : Nat} {xs ys : Array Value} {a b : Value} {Q : Fin → Shared → Prop} (hh : A.handled = none) (D : ZipApart z TI TO i1 i2 l1 l2)
    (hz : ZS s.heap z TI TO .none) (hTI : IsPair s.heap TI (.ref i1) (.ref i2)) (hTO : IsPair s.heap TO a b) (h1 : s.heap.IsTupleIter i1 l1 k1) (h2 : s.heap.IsTupleIter i2 l2 k2)
    (hl1 : s.heap.IsTuple l1 xs) (hl2 : s.heap.IsTuple l2 ys) (hx : xs[k1]? = none) (hy : ys[k2]? = none)
    (hE : ∀ h' e, (∀ c o, c ≠ z → c ≠ TO → c ≠ i1 → c ≠ i2 → s.heap.get? c = some o → h'.get? c = some o) → (∃ o, h'.get? e = some o ∧ o.cls = .type "StopIteration") → E (.ref e) { s with heap := h' }) :
    wpAny (model prog w) A (Builtin.«zip.__next__» ⟨[.ref z], []⟩) Q E s := by
  show wpAny _ _ (field (.ref z) 2 >>= _) _ _ _
  refine wpAny_bind (wpAny_field hz rfl (x := .bool true) rfl ?_)
  show wpAny _ _ (field (.ref z) 3 >>= _) _ _ _
  refine wpAny_bind (wpAny_field hz rfl (x := .ref TI) rfl ?_)
  refine wpAny_bind (wpAny_seqItems hTI rfl ?_)
  show wpAny _ _ (Builtin.SmallTypes.ownedTupleIsFree (.ref z) >>= _) _ _ _
  refine wpAny_bind ?_
  unfold Builtin.SmallTypes.ownedTupleIsFree
  refine wpAny_bind (wpAny_field hz rfl (x := .none) rfl (wpAny_pure ?_))
  simp only [if_true]
  refine wpAny_bind (wpAny_rule ?_)
  refine wpAny_bind (wpAny_field hz rfl (x := .ref TO) rfl ?_)
  refine wpAny_bind (wpAny_setField_rec hz (by simp) fun h₁ hz₁ hs₁ => ?_)
  replace hz₁ : ZS h₁ z TI TO .ellipsis := hz₁
  refine wpAny_bind ?_
  simp only [List.zipIdx_cons, List.zipIdx_nil, List.forIn_cons, List.forIn_nil]
  refine wpAny_bind (wpAny_bind (wpAny_onRaise ?_))
  show wpAny _ _ (Builtin.SmallTypes.nextOrEnd (.ref i1)) _ _ _
  refine draw_end hh (h1.extBut hs₁.extBut D.i1z) (hl1.extBut hs₁.extBut D.l1z) hx fun h₂ hs₂ => ?_
  have hz₂ : ZS h₂ z TI TO .ellipsis := hs₂ _ _ D.i1z.symm hz₁
  refine wpAny_bind (wpAny_setField_rec hz₂ (by simp) fun h₃ _ hs₃ => ?_)
  refine wpAny_bind ?_
  show wpAny _ _ (_ >>= _) _ _ _
  refine wpAny_bind ?_
  simp only [List.drop_succ_cons, List.drop_zero, List.zipIdx_cons, List.zipIdx_nil, List.forIn_cons, List.forIn_nil]
  have h2₃ : h₃.IsTupleIter i2 l2 k2 := ((h2.extBut hs₁.extBut D.i2z).extBut hs₂ D.i12.symm).extBut hs₃.extBut D.i2z
  have hl2₃ : h₃.IsTuple l2 ys := ((hl2.extBut hs₁.extBut D.l2z).extBut hs₂ D.l2i1).extBut hs₃.extBut D.l2z
  refine wpAny_bind (wpAny_bind (draw_end hh h2₃ hl2₃ hy fun h₄ hs₄ => ?_))
  refine wpAny_pure (wpAny_pure (wpAny_bind (wpAny_rule ?_)))
  unfold Builtin.SmallTypes.stopIteration
  refine wpAny_bind ?_
  simp only [newExc, newTuple]
  refine wpAny_bind (wpAny_newObj_type ?_ (by size_fits))
  refine wpAny_bind (m := firstArgMember _ _) (wpAny_of_eq (a := Value.none) (by first | rfl | (simp only [firstArgMember]; rfl)) ?_)
  refine wpAny_newObj_type ?_ (by size_fits)
  simp only [raiseNew]
  refine wpAny_bind (wpAny_handled ?_)
  rw [hh]
  refine wpAny_bind (wpAny_pure (wpAny_throw ?_))
  exact hE _ _ (fun c o c1 c2 c3 c4 e => Heap.get?_push_of_some _ (Heap.get?_push_of_some _ (hs₄ _ _ c4 (hs₃.extBut _ _ c1 (hs₂ _ _ c3 (hs₁.extBut _ _ c1 e)))))) ⟨_, Heap.get?_push_size _ rfl, rfl⟩
theorem next_zs_item {z TI TO i1 i2 l1 l2 : Addr} {k1 k2 : Nat} {xs ys : Array Value} {x y a b : Value} {Q : Option Value → Shared → Prop} (D : ZipApart z TI TO i1 i2 l1 l2)
    (hz : ZS s.heap z TI TO .none) (hTI : IsPair s.heap TI (.ref i1) (.ref i2)) (hTO : IsPair s.heap TO a b) (h1 : s.heap.IsTupleIter i1 l1 k1) (h2 : s.heap.IsTupleIter i2 l2 k2)
    (hl1 : s.heap.IsTuple l1 xs) (hl2 : s.heap.IsTuple l2 ys) (hx : xs[k1]? = some x) (hy : ys[k2]? = some y)
    (hQ : ∀ h', ZS h' z TI TO (rawInt s.heap.objs.size) → IsPair h' TO x y → h'.IsTupleIter i1 l1 (k1 + 1) → h'.IsTupleIter i2 l2 (k2 + 1) → IsPair h' s.heap.objs.size x y →
      (∀ c o, c ≠ z → c ≠ TO → c ≠ i1 → c ≠ i2 → s.heap.get? c = some o → h'.get? c = some o) → Q (some (.ref s.heap.objs.size)) { s with heap := h' }) : wpAny (model prog w) A (pyNext (.ref z)) Q E s := by
  have hT : s.TypeIs (.ref z) "zip" := ⟨_, hz, rfl⟩
  unfold pyNext
  exact wpAny_bind (wpAny_attempt (wpAny_callSpecial?_slot (name := Str.ofString "__next__") hT PySem.F.slot_zip_next
    (wpAny_call_entry PySem.F.slot_zip_next hT PySem.F.entry_zip_next (zs_item D hz hTI hTO h1 h2 hl1 hl2 hx hy fun h' a1 a2 a3 a4 a5 a6 => wpAny_pure (hQ h' a1 a2 a3 a4 a5 a6)) (PySem.F.args_zip_next_1 _))))
theorem next_zs_end {z TI TO i1 i2 l1 l2 : Addr} {k1 k2 : Nat} {xs ys : Array Value} {a b : Value} {Q : Option Value → Shared → Prop} (hh : A.handled = none) (D : ZipApart z TI TO i1 i2 l1 l2)
    (hz : ZS s.heap z TI TO .none) (hTI : IsPair s.heap TI (.ref i1) (.ref i2)) (hTO : IsPair s.heap TO a b) (h1 : s.heap.IsTupleIter i1 l1 k1) (h2 : s.heap.IsTupleIter i2 l2 k2)
    (hl1 : s.heap.IsTuple l1 xs) (hl2 : s.heap.IsTuple l2 ys) (hx : xs[k1]? = none) (hy : ys[k2]? = none)
    (hQ : ∀ h', (∀ c o, c ≠ z → c ≠ TO → c ≠ i1 → c ≠ i2 → s.heap.get? c = some o → h'.get? c = some o) → Q none { s with heap := h' }) : wpAny (model prog w) A (pyNext (.ref z)) Q E s := by
  have hT : s.TypeIs (.ref z) "zip" := ⟨_, hz, rfl⟩
  unfold pyNext
  refine wpAny_bind (wpAny_attempt (wpAny_callSpecial?_slot (name := Str.ofString "__next__") hT PySem.F.slot_zip_next
    (wpAny_call_entry PySem.F.slot_zip_next hT PySem.F.entry_zip_next (zs_end hh D hz hTI hTO h1 h2 hl1 hl2 hx hy fun h' e hk he => ?_) (PySem.F.args_zip_next_1 _))))
  obtain ⟨o, ho, hc⟩ := he
  refine wpAny_bind (wpAny_isInstance (T := "StopIteration") (b := true) ⟨o, ho, hc⟩ isSubtype_stop ?_)
  exact wpAny_pure (hQ _ hk)
theorem go_zs {elts : List Expr} {x1 : Nat} {pos : Pos} {z TI TO T : Addr} {Q : Unit → Shared → Prop} (hz : ZS s.heap z TI TO (rawInt T)) (hQ : ∀ h', ZS h' z TI TO .none → Heap.SameBut z s.heap h' → Q () { s with heap := h' }) :
    wpAny (model prog w) A (letOwnedTupleGo (.Tuple elts x1 pos) (.ref z) (.ref T)) Q E s := by
  unfold letOwnedTupleGo
  refine wpAny_bind (wpAny_load hz ?_)
  show wpAny _ _ (if (["enumerate", "zip", "dict_itemiterator", "dict_reverseitemiterator", "odict_iterator", "itertools.zip_longest", "itertools.pairwise"].contains "zip" &&
      (#[rawInt T, .bool false, .bool true, .ref TI, .ref TO] : Array Value)[0]? == some (rawInt T)) = true then _ else _) Q E s
  rw [if_pos (by simp)]
  refine wpAny_bind (wpAny_rule ?_)
  show wpAny _ _ (setField (.ref z) 0 .none) Q E s
  exact wpAny_setField_rec hz (by simp) fun h' hz' hs' => hQ h' hz' hs'
theorem iter_zs {z TI TO : Addr} {f0 : Value} {Q : Value → Shared → Prop} (hz : ZS s.heap z TI TO f0) (h : Q (.ref z) s) : wpAny (model prog w) A (pyIter (.ref z)) Q E s := by
  have hT : s.TypeIs (.ref z) "zip" := ⟨_, hz, rfl⟩
  refine wpAny_pyIter_slot hT PySem.F.slot_zip_iter (wpAny_call_entry PySem.F.slot_zip_iter hT PySem.F.entry_zip_iter ?_ (PySem.F.args_zip_iter_1 _))
  show wpAny _ _ (ret (.ref z)) _ _ s
  exact wpAny_pure ⟨_, rfl, "zip", _, hT, PySem.F.slot_zip_next.lookup, h⟩
end

/-! ### the walk -/
/-- two tuples of one length, in new pairs -/
def ItzS (K : PySem.W.Frag) (a b : Addr) : L2.It :=
  ⟨(RZ.ItzT K a b).go, (RZ.ItzT K a b).yld, fun i H => ∃ xs ys : List V, SqT K H a xs ∧ SqT K H b ys ∧ xs.length ≤ i ∧ ys.length ≤ i⟩
theorem turn_zs {P : Program} {w : World} {K : PySem.W.Frag} {elts : List Expr} {kk : Nat} {tpos : Pos} {a b z TI TO i1 i2 : Addr} (D : ZipApart z TI TO i1 i2 a b) :
    Turn P w K (.Tuple elts kk tpos) (ItzS K a b) [z, TI, TO, i1, i2] z (fun i h => ZS h z TI TO .none ∧ IsPair h TI (.ref i1) (.ref i2) ∧ (∃ x y, IsPair h TO x y) ∧ h.IsTupleIter i1 a i ∧ h.IsTupleIter i2 b i) where
  mem := by simp
  obj := fun i h st c hc => by
    obtain ⟨hz, hTI, ⟨x, y, hTO⟩, ⟨o1, e1, _, d1⟩, ⟨o2, e2, _, d2⟩⟩ := st
    have e' : c = z ∨ c = TI ∨ c = TO ∨ c = i1 ∨ c = i2 := by simpa using hc
    rcases e' with q | q | q | q | q <;> subst q
    · exact ⟨_, hz, fun v q => nomatch q⟩
    · exact ⟨_, hTI, fun v q => nomatch q⟩
    · exact ⟨_, hTO, fun v q => nomatch q⟩
    · exact ⟨o1, e1, fun v q => by rw [d1] at q; cases q⟩
    · exact ⟨o2, e2, fun v q => by rw [d2] at q; cases q⟩
  keep := fun i h h' st k => by
    obtain ⟨hz, hTI, ⟨x, y, hTO⟩, h1, h2⟩ := st
    exact ⟨k z (by simp) _ hz, k TI (by simp) _ hTI, ⟨x, y, k TO (by simp) _ hTO⟩, h1.at fun o q => k i1 (by simp) o q, h2.at fun o q => k i2 (by simp) o q⟩
  item := by
    intro X hP hw hK hc i pins s σ H E I hf st hg
    subst hP hw hK
    obtain ⟨hz, hTI, ⟨x0, y0, hTO⟩, h1, h2⟩ := st
    obtain ⟨xs, ys, x, y, hqx, hqy, hx, hy⟩ := hg
    obtain ⟨its, rv, p, _⟩ := I.tuple hqx
    obtain ⟨its2, rv2, p2, _⟩ := I.tuple hqy
    obtain ⟨u, hu, ru⟩ := rv.get hx
    obtain ⟨u2, hu2, ru2⟩ := rv2.get hy
    have hzl : z < s.heap.objs.size := Heap.lt_size hz
    refine next_zs_item D hz hTI hTO h1 h2 p p2 (x := u) (y := u2) (by simpa using hu) (by simpa using hu2) fun h' z' TO' h1' h2' hT hk => ?_
    refine ⟨_, rfl, go_zs (s := { s with heap := h' }) z' fun h'' z'' sb => ?_⟩
    have hT2 : h''.get? s.heap.objs.size = some { cls := .type "tuple", data := .seq #[u, u2] } := (sb.2 _ (Nat.ne_of_gt hzl)).trans hT
    have new : ObjOk X.prog X.w (upd H s.heap.objs.size (.tup [x, y])) h'' s.heap.objs.size (.tup [x, y]) := ⟨by show 2 ≤ sizeLine; decide, [u, u2], .cons ru (.cons ru2 .nil), ⟨_, hT2, rfl, _, rfl⟩⟩
    have far : ∀ c o, c ∉ [z, TI, TO, i1, i2] → s.heap.get? c = some o → h''.get? c = some o := fun c o hb q => by
      simp only [List.mem_cons, List.not_mem_nil, or_false, not_or] at hb
      obtain ⟨b1, b2, b3, b4, b5⟩ := hb
      exact (sb.2 c b1).trans (hk c o b1 b3 b4 b5 q)
    have I1 : Inv X pins σ (upd H s.heap.objs.size (.tup [x, y])) { s with heap := h'' } := I.turnedNew (t' := s.toks) (ch := [z, TI, TO, i1, i2]) far hf (Nat.le_refl _) new
    refine ⟨.ref s.heap.objs.size, _, I1, rfl, ⟨_, x, y, rfl, I.hok.fresh (Nat.le_refl _), rfl, fun l hl => by rw [I.tuple_inj hl hqx]; exact hx, fun l hl => by rw [I.tuple_inj hl hqy]; exact hy⟩, ⟨z'', ?_, ⟨u, u2, ?_⟩, ?_, ?_⟩, fun c hcm => ?_⟩
    · exact (sb.2 _ D.TIz).trans (hk _ _ D.TIz D.TITO D.TIi1 D.TIi2 hTI)
    · exact (sb.2 _ D.TOz).trans TO'
    · exact h1'.at fun o q => (sb.2 _ D.i1z).trans q
    · exact h2'.at fun o q => (sb.2 _ D.i2z).trans q
    · have hlt : c < s.heap.objs.size := by
        obtain ⟨o1, e1, _⟩ := h1
        obtain ⟨o2, e2, _⟩ := h2
        have e' : c = z ∨ c = TI ∨ c = TO ∨ c = i1 ∨ c = i2 := by simpa using hcm
        rcases e' with q | q | q | q | q <;> subst q
        · exact hzl
        · exact Heap.lt_size hTI
        · exact Heap.lt_size hTO
        · exact Heap.lt_size e1
        · exact Heap.lt_size e2
      rw [upd_ne (Nat.ne_of_lt hlt)]
      exact (hf c hcm).1
  done := by
    intro X hP hw hK hc i pins s σ H E I hf st hg
    subst hP hw hK
    obtain ⟨hz, hTI, ⟨x0, y0, hTO⟩, h1, h2⟩ := st
    obtain ⟨xs, ys, hqx, hqy, e1, e2⟩ := hg
    obtain ⟨its, rv, p, _⟩ := I.tuple hqx
    obtain ⟨its2, rv2, p2, _⟩ := I.tuple hqy
    have l1 := rv.length
    have l2 := rv2.length
    refine next_zs_end (I.ok.hd hc) D hz hTI hTO h1 h2 p p2 (by simp; omega) (by simp; omega) fun h' hk => ⟨rfl, I.turnedL (t' := s.toks) (ch := [z, TI, TO, i1, i2]) (fun c o hb q => ?_) hf⟩
    simp only [List.mem_cons, List.not_mem_nil, or_false, not_or] at hb
    obtain ⟨b1, b2, b3, b4, b5⟩ := hb
    exact hk c o b1 b3 b4 b5 q
  self := fun A i s Q E st h => iter_zs st.1 h

/-! ### the call -/
def kwS : List (Str × Value) := [(Str.ofString "strict", .bool true)]
theorem zs_typeCall (a b : Value) : checkTypeCall "zip" ⟨[a, b], kwS⟩ = pure () := by kernel_rfl
theorem zs_newCall (a b : Value) : checkBuiltinCall "zip.__new__" ⟨[.type "zip", a, b], kwS⟩ = pure () := by kernel_rfl
theorem zs_initArgs (a b c : Value) : argsOk "object.__init__" ⟨[a, b, c], kwS⟩ := by
  unfold argsOk
  rw [signature?_of (id := "object.__init__") (n := ['_', '_', 't', 'i', 'n', 'i', '_', '_']) (o := ['t', 'c', 'e', 'j', 'b', 'o']) (by kernel_rfl) PySem.F.owner_object]
  kernel_rfl
section
variable {prog : Program} {w : World} {A : Around} {E : Value → Shared → Prop} {s : Shared}
abbrev zsH1 (h : Heap) (l1 : Addr) : Heap := h.push { cls := .type "tuple_iterator", data := .fields #[.ref l1, .int 0 0] }
abbrev zsH2 (h : Heap) (l1 l2 : Addr) : Heap := (zsH1 h l1).push { cls := .type "tuple_iterator", data := .fields #[.ref l2, .int 0 0] }
abbrev zsH3 (h : Heap) (l1 l2 : Addr) : Heap := (zsH2 h l1 l2).push { cls := .type "tuple", data := .seq #[.ref h.objs.size, .ref (zsH1 h l1).objs.size] }
abbrev zsH4 (h : Heap) (l1 l2 : Addr) : Heap := (zsH3 h l1 l2).push { cls := .type "tuple", data := .seq #[.none, .none] }
abbrev zsH5 (h : Heap) (l1 l2 : Addr) : Heap := (zsH4 h l1 l2).push { cls := .type "zip", data := .fields #[.none, .bool false, .bool true, .ref (zsH2 h l1 l2).objs.size, .ref (zsH3 h l1 l2).objs.size] }
theorem zs_new (l1 l2 : Addr) (xs ys : Array Value) : Meets (Builtin.«zip.__new__» ⟨[.type "zip", .ref l1, .ref l2], kwS⟩) (fun _ R s => s.heap.IsTuple l1 xs ∧ s.heap.IsTuple l2 ys ∧ R (.ok (.ret (.ref (zsH4 s.heap l1 l2).objs.size))) { s with heap := zsH5 s.heap l1 l2 }) :=
  .of_wp fun prog w A R s h => by
    obtain ⟨hp, g, d, tk, os⟩ := s
    obtain ⟨hl1, hl2, h⟩ := h
    have hsub := PySem.sub_zip
    have hL1 : Heap.IsTuple (Shared.heap ⟨hp, g, d, tk, os⟩) l1 xs := hl1
    have hL2 : Heap.IsTuple (Shared.heap ⟨hp.push { cls := .type "tuple_iterator", data := .fields #[.ref l1, .int 0 0] }, g, d, tk, os⟩) l2 ys := Heap.IsTuple.push hl2 _
    unfold kwS
    wp_walk using wpAny_pyIter_tuple hL1, wpAny_pyIter_tuple hL2
    exact ⟨_, rfl, h⟩
/-- a built-in type called, with keywords -/
theorem callTypeK {T newId : String} {Bn : Builtin} {args : List Value} {kw : List (Str × Value)} {S : PySem.Spec} {Q : Value → Shared → Prop} (ft : TypeCalled T newId "object.__init__") (hne : (some newId != some "object.__new__") = true)
    (hct : checkTypeCall T ⟨args, kw⟩ = pure ()) (hcn : checkBuiltinCall newId ⟨.type T :: args, kw⟩ = pure ()) (hok : ∀ obj, argsOk "object.__init__" ⟨obj :: args, kw⟩) (entryN : entryFor table newId = some Bn) (g : Meets (Bn ⟨.type T :: args, kw⟩) S) (ha : args ≠ [])
    (h : S A.in1 (wants (fun obj s₁ => s₁.TypeIs obj T ∧ Q obj s₁) E) s) : wpAny (model prog w) A (call (.type T) args kw) Q E s := by
  obtain ⟨c, tl, hmro⟩ := ft.mro
  have hmade := ft.made
  have hsub := ft.sub
  refine wpAny_call (codeAny_of_tree ?_)
  show wpAny _ _ (callAny (.type T) _) _ _ _
  refine wpAny_pure ⟨Code.quiet_builtin _ (by decide +kernel), codeAny_builtin PySem.F.entry_type_call ?_⟩
  rw [Around.under_plain (weight_type_call_type T args kw) (units_type_call_type T args kw)]
  have h1 := ft.notType
  have h2 := ft.canCreate
  repeat (any_goals (first | assumption | wp_step))
  refine codeAny_mono (codeAny_call_builtin ft.plain entryN (wpAny_of_eq hcn (g prog w A.in1 _ s h))) fun r s₁ hr => ?_
  cases r with
  | error e => exact hr
  | ok fl =>
    cases fl with
    | ret obj =>
      obtain ⟨hT, hq⟩ := hr
      have hli := ft.init.lookup
      have hbi := ft.init.bind obj
      repeat (any_goals (first | assumption | wp_step))
      have gi : Meets (Builtin.«object.__init__» ⟨obj :: args, kw⟩) (fun _ R s => s.TypeIs obj T ∧ R (.ok (.ret .none)) s) := by
        refine Meets.of_wp fun prog w A R s hs => ?_
        obtain ⟨hT, hq⟩ := hs
        cases args with
        | nil => exact absurd rfl ha
        | cons a rest =>
          repeat (any_goals (first | assumption | wp_step))
          exact ⟨_, rfl, hq⟩
      refine codeAny_mono (codeAny_call_builtin ft.init.plain PySem.F.entry_object_init (ft.init.check _ _ _ _ _ _ _ _ hT (hok obj) (gi prog w A.in1 (wants (fun r s₂ => r = .none ∧ Q obj s₂) E) s₁ ⟨hT, rfl, hq⟩))) fun r₂ s₂ hr₂ => ?_
      cases r₂ with
      | error e => exact hr₂
      | ok fl₂ =>
        cases fl₂ with
        | ret r =>
          obtain ⟨rfl, hq⟩ := hr₂
          repeat (any_goals (first | assumption | wp_step))
        | _ => exact hr₂.elim
    | _ => exact hr.elim
theorem call_zs {l1 l2 : Addr} {xs ys : Array Value} {Q : Value → Shared → Prop} (hl1 : s.heap.IsTuple l1 xs) (hl2 : s.heap.IsTuple l2 ys)
    (h : ∀ h', ZS h' (s.heap.objs.size + 4) (s.heap.objs.size + 2) (s.heap.objs.size + 3) .none → IsPair h' (s.heap.objs.size + 2) (.ref s.heap.objs.size) (.ref (s.heap.objs.size + 1)) →
      IsPair h' (s.heap.objs.size + 3) .none .none → h'.IsTupleIter s.heap.objs.size l1 0 → h'.IsTupleIter (s.heap.objs.size + 1) l2 0 → (∀ c o, s.heap.get? c = some o → h'.get? c = some o) → Q (.ref (s.heap.objs.size + 4)) { s with heap := h' }) :
    wpAny (model prog w) A (call (.type "zip") [.ref l1, .ref l2] kwS) Q E s := by
  refine callTypeK PySem.F.called_zip (by decide) (zs_typeCall _ _) (zs_newCall _ _) (fun obj => zs_initArgs obj _ _) PySem.F.entry_zip_new (zs_new l1 l2 xs ys) (by simp) ⟨hl1, hl2, ?_⟩
  have z1 : (zsH1 s.heap l1).objs.size = s.heap.objs.size + 1 := Heap.size_push ..
  have z2 : (zsH2 s.heap l1 l2).objs.size = s.heap.objs.size + 2 := by rw [Heap.size_push, z1]
  have z3 : (zsH3 s.heap l1 l2).objs.size = s.heap.objs.size + 3 := by rw [Heap.size_push, z2]
  have z4 : (zsH4 s.heap l1 l2).objs.size = s.heap.objs.size + 4 := by rw [Heap.size_push, z3]
  have g5 : (zsH5 s.heap l1 l2).get? (zsH4 s.heap l1 l2).objs.size = some _ := Heap.get?_push_size _ rfl
  have g4 : (zsH5 s.heap l1 l2).get? (zsH3 s.heap l1 l2).objs.size = some _ := Heap.get?_push_of_some _ (Heap.get?_push_size _ rfl)
  have g3 : (zsH5 s.heap l1 l2).get? (zsH2 s.heap l1 l2).objs.size = some _ := Heap.get?_push_of_some _ (Heap.get?_push_of_some _ (Heap.get?_push_size _ rfl))
  have g2 : (zsH5 s.heap l1 l2).get? (zsH1 s.heap l1).objs.size = some _ := Heap.get?_push_of_some _ (Heap.get?_push_of_some _ (Heap.get?_push_of_some _ (Heap.get?_push_size _ rfl)))
  have g1 : (zsH5 s.heap l1 l2).get? s.heap.objs.size = some _ := Heap.get?_push_of_some _ (Heap.get?_push_of_some _ (Heap.get?_push_of_some _ (Heap.get?_push_of_some _ (Heap.get?_push_size _ rfl))))
  show _ ∧ _
  rw [z2, z3, z4] at g5
  rw [z1, z2] at g3
  rw [z3] at g4
  rw [z1] at g2
  rw [z4]
  exact ⟨⟨_, g5, rfl⟩, h _ g5 g3 g4 ⟨_, g1, rfl, rfl⟩ ⟨_, g2, rfl, rfl⟩ fun c o x => Heap.get?_push_of_some _ (Heap.get?_push_of_some _ (Heap.get?_push_of_some _ (Heap.get?_push_of_some _ (Heap.get?_push_of_some _ x))))⟩
theorem callWith_typeK {M : Model} {pos : Pos} {T : String} {args : List (Bool × Sem Value)} {kws : List (Option Str × Sem Value)} {Q : Value → Shared → Prop} (hplain : args.any (·.1) = false) (hkw : kws.any (·.1.isNone) = false)
    (h : wpAny M A (evalArgs (.type T) true args kws) (fun a s₁ => wpAny M A (call (.type T) a.pos a.kw) Q E s₁) E s) : wpAny M A (callWith pos (.type T) [] args kws) Q E s := by
  unfold callWith
  refine wpAny_bind (wpAny_holding (wpAny_mono h (fun a s₁ h₁ => wpAny_bind (wpAny_standAt ?_)) fun _ _ x => x))
  simp only [hplain, hkw, Bool.or_false]
  refine wpAny_bind (wpAny_pure ?_)
  exact wpAny_bind (wpAny_mono h₁ (fun r s₂ hr => wpAny_bind (wpAny_holding (wpAny_point (wpAny_pure hr)))) fun _ _ x => x)
end
def iZs (K : PySem.W.Frag) (ta : TA) : TI := fun σ H R => ta σ H fun vs H1 => ∃ a b xs ys, vs = [.ref a, .ref b] ∧ SqT K H1 a xs ∧ SqT K H1 b ys ∧ R (ItzS K a b) H1
theorem pi_zs {X : Cx} {e e2 : Expr} {ta : TA} {p pos tpos pc kp : Pos} {kc : Nat} {elts : List Expr} {kk : Nat} (hg : Gl X "zip") (hm : X.mg "zip" = none) (ha : PA X [e, e2] ta)
    (hs : starEach [e, e2] X.env = (false, eval e X.env) :: starEach [e2] X.env) (hpl : (backTo pos (starEach [e2] X.env)).any (·.1) = false) :
    PI X (.Tuple elts kk tpos) (.Call (.Name "zip" p) [e, e2] [⟨some "strict", .Constant (.bool true) kc pc, kp⟩] pos) (iZs X.K ta) := by
  refine ⟨fun pins s σ H R I h => ?_⟩
  refine wpAny_Call_Name_kw (ld_blt I hg hm PyProof.Rows.boot_zip ?_)
  refine callWith_typeK (by rw [hs]; show (false || _) = false; exact hpl) rfl ?_
  have hA := ha.run pos pins s σ H _ I h
  rw [hs] at hA ⊢
  refine evalArgs_kwB rfl (thn hA fun us s1 ⟨vs, H1, I1, r1, q1⟩ => kws_cons (Constant_bool (kws_nil ?_)))
  obtain ⟨a, b, xs, ys, rfl, hqx, hqy, q⟩ := q1
  obtain ⟨u1, u2, rfl, c1, c2⟩ := vals2 r1
  cases c1
  cases c2
  obtain ⟨its, rv, p1, _⟩ := I1.tuple hqx
  obtain ⟨its2, rv2, p2, _⟩ := I1.tuple hqy
  obtain ⟨o1, ho1, _⟩ := id p1
  obtain ⟨o2, ho2, _⟩ := id p2
  refine call_zs (show s1.heap.IsTuple a its.toArray from p1) (show s1.heap.IsTuple b its2.toArray from p2) fun h' hz hTI hTO h1 h2 hk => iter_zs hz ?_
  have I2 : Inv X pins σ H1 { s1 with heap := h' } := I1.kept (t' := s1.toks) hk
  refine ⟨s1.heap.objs.size + 4, [s1.heap.objs.size + 4, s1.heap.objs.size + 2, s1.heap.objs.size + 3, s1.heap.objs.size, s1.heap.objs.size + 1], _, _, H1, rfl, I2, turn_zs (PySem.W.ktu_apart s1.heap.objs.size a b (Heap.lt_size ho1) (Heap.lt_size ho2)), ⟨hz, hTI, ⟨_, _, hTO⟩, h1, h2⟩, fun c hcm => ?_, q⟩
  have hle : s1.heap.objs.size ≤ c := by
    simp only [List.mem_cons, List.not_mem_nil, or_false] at hcm
    rcases hcm with z | z | z | z | z <;> rw [z] <;> first | exact Nat.le_refl _ | exact Nat.le_add_right _ _
  exact I1.fpOk hle (I1.hok.fresh hle)
theorem dlv_zs {K : PySem.W.Frag} {F : Hp} {a b : Addr} {vs ws : List V} {xs ys : List PyData} (hl : xs.length = ys.length) (h : TpAt F a vs) (h' : TpAt F b ws) (hd : DenAll K F vs xs) (hd' : DenAll K F ws ys) : Dlv K (ItzS K a b) (zipD xs ys) F := by
  intro F1 H1 e1 e2 i
  obtain ⟨k1, k2⟩ := dlv_zipT h h' hd hd' F1 H1 e1 e2 i
  refine ⟨k1, fun hi => ⟨vs, ws, ((h.mono e1).mono e2).sq, ((h'.mono e1).mono e2).sq, ?_, ?_⟩⟩
  · rw [hd.length]
    rcases zipD_len hi with z | z <;> omega
  · rw [hd'.length]
    rcases zipD_len hi with z | z <;> omega
section
variable {X : Cx} {Φ : Fs} {a b : Expr} {ea eb : E} {pos p : Pos}
theorem i_zips {elts : List Expr} {kk kc : Nat} {tpos pc kp : Pos} (hg : Gl X "zip") (hm : X.mg "zip" = none) (ha : PE X a (tE Φ X.K ea)) (hb : PE X b (tE Φ X.K eb)) (hs : starEach [a, b] X.env = (false, eval a X.env) :: starEach [b] X.env) (hs2 : starEach [b] X.env = (false, eval b X.env) :: starEach [] X.env) (hpl : (backTo pos (starEach [b] X.env)).any (·.1) = false) :
    PI X (.Tuple elts kk tpos) (.Call (.Name "zip" p) [a, b] [⟨some "strict", .Constant (.bool true) kc pc, kp⟩] pos) (tIt Φ X.K (.zips ea eb)) := PI.imp (pi_zs hg hm (pa_cons ha (pa_cons hb pa_nil hs2) hs) hs hpl) fun σ H Q h => by
  obtain ⟨F, S, st, A, xs, st', R, e, k⟩ := h
  rw [evIt] at e
  obtain ⟨⟨x, s1⟩, h1, e⟩ := bindE e
  obtain ⟨⟨y, s2⟩, h2, e⟩ := bindE e
  obtain ⟨ds, h3, e⟩ := bindE e
  obtain ⟨⟨us, ws⟩, h4, e⟩ := bindE e
  dsimp only at e
  split at e
  case isFalse => cases e
  rename_i hl
  cases e
  unfold zip2t at h4
  split at h4
  · cases h4
    refine two_dat R h1 h2 h3 fun v w F' H' A' t d1 d2 => ?_
    obtain ⟨a1, vs1, rfl, g1, g2⟩ := d1.tup_of
    obtain ⟨a2, vs2, rfl, g3, g4⟩ := d2.tup_of
    exact ⟨a1, a2, vs1, vs2, rfl, (g1.mono t.rel.same).sq, (g3.mono t.rel.same).sq, k _ _ _ _ t (dlv_zs hl g1 g3 g2 g4)⟩
  · cases h4
end
end Vm


set_option Elab.async false
set_option linter.all false
set_option maxRecDepth 100000
/-! Vm, part 16: targets; list comprehensions. -/
namespace Vm
open PySem PySem.Spec PyProof.Rows L2

/-! ### targets -/
mutual
def tgN : Tg → List Nat
  | .nm i => [i]
  | .tp ts => tgsN ts
def tgsN : Tgs → List Nat
  | .nil => []
  | .cons t ts => tgN t ++ tgsN ts
end
def tgsL : Tgs → Nat
  | .nil => 0
  | .cons _ ts => tgsL ts + 1
theorem asgs_len : ∀ {ts : Tgs} {xs : List PyData} {st st' : St}, asgs ts xs st = some st' → xs.length = tgsL ts
  | .nil, [], _, _, _ => rfl
  | .nil, _ :: _, _, _, h => by simp [asgs] at h
  | .cons _ _, [], _, _, h => by simp [asgs] at h
  | .cons t ts, x :: xs, st, st', h => by
    rw [asgs] at h
    obtain ⟨s, _, h2⟩ := bindE h
    rw [List.length_cons, asgs_len h2]
    rfl
/-- the state behind an assignment of names -/
structure Asd (K : PySem.W.Frag) (F H : Hp) (S : List Addr) (σ σ' : L2.St) (A : Nat → List Addr) (st' : St) (A' : Nat → List Addr) (ns : List Nat) : Prop where
  post : PostT K F H S σ σ' A st' F H A'
  len : σ'.length = σ.length
  off : ∀ j, j ∉ ns → σ'[j]? = σ[j]?
def gT (K : PySem.W.Frag) (tg : Tg) : TG := fun v σ H Q => ∃ F S st A x st', Rel K F H S σ st A ∧ Den K F v x ∧ asg tg x st = some st' ∧ ∀ σ' A', Asd K F H S σ σ' A st' A' (tgN tg) → Q σ' H
def gTs (K : PySem.W.Frag) (ts : Tgs) : TGs := fun vs σ H Q => ∃ F S st A xs st', Rel K F H S σ st A ∧ DenAll K F vs xs ∧ asgs ts xs st = some st' ∧ ∀ σ' A', Asd K F H S σ σ' A st' A' (tgsN ts) → Q σ' H
theorem PG.imp {X : Cx} {e : Expr} {t t' : TG} (h : PG X e t) (i : ∀ v σ H Q, t' v σ H Q → t v σ H Q) : PG X e t' := ⟨fun pins s σ H v u Q I r q => h.run pins s σ H v u Q I r (i v σ H Q q)⟩
theorem PGs.imp {X : Cx} {e : List Expr} {t t' : TGs} (h : PGs X e t) (i : ∀ v σ H Q, t' v σ H Q → t v σ H Q) : PGs X e t' := ⟨fun pins s σ H v u Q I r q => h.run pins s σ H v u Q I r (i v σ H Q q)⟩
section
variable {X : Cx} {pos : Pos}
theorem Rel.name {K : PySem.W.Frag} {F H : Hp} {S : List Addr} {σ : L2.St} {st : St} {A : Nat → List Addr} {i : Nat} {v : V} {x : PyData} (R : Rel K F H S σ st A) (hi : i < st.ρ.length) (hd : Den K F v x) :
    Asd K F H S σ (σ.set i (some v)) A (st.set i (some (.d x))) (upA A i []) [i] :=
  ⟨⟨Step.refl.weak fun b h => ow_up h, R.slot hi rfl ⟨rfl, hd⟩ (List.getElem?_set_self (Nat.lt_of_lt_of_le hi R.len)) (fun j hj => List.getElem?_set_ne (Ne.symm hj)) List.nodup_nil (fun _ z => nomatch z)⟩,
    List.length_set .., fun j hj => List.getElem?_set_ne (fun z => hj (by simp [z]))⟩
theorem g_nm {i : Nat} {x : Str} (hN : X.N.Nodup) (hi : X.N[i]? = some x) (hx : Loc X.env.scope x) (hf : X.fn x = true ∨ X.env.scope.names.lookup x = some .local) : PG X (.Name x pos) (gT X.K (.nm i)) := PG.imp (pg_name hN hi hx hf) fun v σ H Q h => by
  obtain ⟨F, S, st, A, x, st', R, hd, e, k⟩ := h
  rw [asg] at e
  split at e
  · rename_i hl
    cases e
    exact k _ _ (R.name hl hd)
  · cases e
theorem g_tp {es : List Expr} {k : Nat} {ts : Tgs} (hc : X.calm = true) (h : PGs X es (gTs X.K ts)) (hn : (assignEach es X.env).length = tgsL ts) (hst : (assignEach es X.env).findIdx? (·.1) = none) : PG X (.Tuple es k pos) (gT X.K (.tp ts)) := PG.imp (pg_tup hc h hn hst) fun v σ H Q h => by
  obtain ⟨F, S, st, A, x, st', R, hd, e, k⟩ := h
  cases x with
  | tuple xs =>
    obtain ⟨a, vs, rfl, g1, g2⟩ := hd.tup_of
    refine ⟨a, vs, rfl, (g1.mono R.same).sq, ?_, F, S, st, A, xs, st', R, g2, e, fun σ' A' p => k _ _ p⟩
    rw [g2.length, asgs_len e]
  | none => cases e
  | bool z => cases e
  | int z => cases e
  | str z => cases e
  | dict z => cases e
  | list z => cases e
theorem gs_nil : PGs X [] (gTs X.K .nil) := PGs.imp pgs_nil fun v σ H Q h => by
  obtain ⟨F, S, st, A, xs, st', R, hd, e, k⟩ := h
  cases xs with
  | nil =>
    cases hd
    rw [asgs] at e
    cases e
    exact ⟨rfl, k σ A ⟨.here R, rfl, fun _ _ => rfl⟩⟩
  | cons x xs => simp [asgs] at e
theorem gs_cons {e : Expr} {es : List Expr} {t : Tg} {ts : Tgs} (h1 : PG X e (gT X.K t)) (h2 : PGs X es (gTs X.K ts)) (hs : (assignEach (e :: es) X.env).map (·.2) = assign e X.env :: (assignEach es X.env).map (·.2)) : PGs X (e :: es) (gTs X.K (.cons t ts)) := PGs.imp (pgs_cons h1 h2 hs) fun v σ H Q h => by
  obtain ⟨F, S, st, A, xs, st', R, hd, e, k⟩ := h
  cases xs with
  | nil => simp [asgs] at e
  | cons x xs =>
    rw [asgs] at e
    obtain ⟨s1, e1, e2⟩ := bindE e
    cases hd with
    | cons d ds =>
      refine ⟨_, _, rfl, F, S, st, A, x, s1, R, d, e1, fun σ1 A1 p => ⟨F, S, s1, A1, xs, st', p.post.rel, ds, e2, fun σ2 A2 q => k σ2 A2 ⟨p.post.trans q.post, q.len.trans p.len, fun j hj => ?_⟩⟩⟩
      unfold tgsN at hj
      rw [List.mem_append, not_or] at hj
      exact (q.off j hj.2).trans (p.off j hj.1)
end

/-! ### slots forgotten -/
def clA (own : List Nat) (A : Nat → List Addr) : Nat → List Addr := fun j => if j ∈ own then [] else A j
theorem clA_sub {own : List Nat} {A : Nat → List Addr} {S : List Addr} {b : Addr} (h : Ow S (clA own A) b) : Ow S A b := by
  rcases h with h | ⟨j, h⟩
  · exact .inl h
  · unfold clA at h
    split at h
    · cases h
    · exact .inr ⟨j, h⟩
theorem clr_len : ∀ (own : List Nat) (st : St), (clr own st).ρ.length = st.ρ.length
  | [], _ => rfl
  | v :: vs, st => by
    show ((clr vs st).ρ.set v none).length = _
    rw [List.length_set, clr_len vs st]
theorem clr_src : ∀ (own : List Nat) (st : St), (clr own st).src = st.src
  | [], _ => rfl
  | v :: vs, st => clr_src vs st
theorem clr_in : ∀ {own : List Nat} {st : St} {j : Nat} {o : O}, (clr own st).ρ[j]? = some (some o) → j ∉ own ∧ st.ρ[j]? = some (some o)
  | [], _, _, _, h => ⟨by simp, h⟩
  | v :: vs, st, j, o, h => by
    have h : ((clr vs st).ρ.set v none)[j]? = some (some o) := h
    by_cases q : v = j
    · subst q
      by_cases hv : v < (clr vs st).ρ.length
      · rw [List.getElem?_set_self hv] at h; cases h
      · rw [List.getElem?_eq_none (by rw [List.length_set]; omega)] at h; cases h
    · rw [List.getElem?_set_ne q] at h
      obtain ⟨h1, h2⟩ := clr_in h
      exact ⟨by simp [Ne.symm q, h1], h2⟩
theorem clr_out : ∀ {own : List Nat} {st : St} {j : Nat}, j ∉ own → (clr own st).ρ[j]? = st.ρ[j]?
  | [], _, _, _ => rfl
  | v :: vs, st, j, h => by
    simp only [List.mem_cons, not_or] at h
    show ((clr vs st).ρ.set v none)[j]? = _
    rw [List.getElem?_set_ne (Ne.symm h.1)]
    exact clr_out h.2
theorem OwnAt.reσ {K : PySem.W.Frag} {F H : Hp} {S : List Addr} {σ σ' : L2.St} {o : O} {v : V} {B : List Addr} (h : OwnAt K F H S σ o v B) (f : ∀ i, o ≠ .bor i) : OwnAt K F H S σ' o v B := (h.unslot f).reslot
theorem Rel.clear {K : PySem.W.Frag} {F H : Hp} {S : List Addr} {own : List Nat} {σ σ' : L2.St} {st : St} {A : Nat → List Addr} (R : Rel K F H S σ st A) (hl : σ.length ≤ σ'.length) (h : ∀ j, j ∉ own → σ'[j]? = σ[j]?) : Rel K F H S σ' (clr own st) (clA own A) where
  same := R.same
  slots := fun j o e => by
    obtain ⟨h1, h2⟩ := clr_in e
    obtain ⟨v, h3, h4⟩ := R.slots j o h2
    refine ⟨v, (h j h1).trans h3, ?_⟩
    unfold clA
    rw [if_neg h1]
    exact h4.reσ fun i z => R.nobor j i (z ▸ h2)
  nobor := fun j k e => R.nobor j k (clr_in e).2
  nod := fun j => by
    unfold clA
    split
    · exact List.nodup_nil
    · exact R.nod j
  dis := fun i j b h1 h2 => by
    unfold clA at h1 h2
    split at h1
    · cases h1
    · split at h2
      · cases h2
      · exact R.dis i j b h1 h2
  out := fun i b hb => by
    unfold clA at hb
    split at hb
    · cases hb
    · exact R.out i b hb
  emp := fun i hi => by
    unfold clA
    split
    · rfl
    · rename_i z
      exact R.emp i fun o e => hi o ((clr_out z).trans e)
  src := by rw [clr_src]; exact R.src
  len := by rw [clr_len]; exact Nat.le_trans R.len hl
/-- slots that the machine has not wiped may be as before -/
theorem Rel.unwipe {K : PySem.W.Frag} {F H : Hp} {S : List Addr} {own : List Nat} {σ : L2.St} {st : St} {A : Nat → List Addr} (R : Rel K F H S (wipe σ own) st A) : Rel K F H S σ st A where
  same := R.same
  slots := fun j o e => by
    obtain ⟨v, h3, h4⟩ := R.slots j o e
    exact ⟨v, (wipe_some h3).1, h4.reσ fun i z => R.nobor j i (z ▸ e)⟩
  nobor := R.nobor
  nod := R.nod
  dis := R.dis
  out := R.out
  emp := R.emp
  src := R.src
  len := by have := R.len; rw [wipe_length] at this; exact this
theorem wipe_out {σ : L2.St} : ∀ {vs : List Nat} {j : Nat}, j ∉ vs → (wipe σ vs)[j]? = σ[j]?
  | [], _, _ => rfl
  | v :: vs, j, h => by
    simp only [List.mem_cons, not_or] at h
    unfold wipe
    rw [List.getElem?_set_ne (Ne.symm h.1)]
    exact wipe_out h.2
theorem wipe_in {σ : L2.St} : ∀ {vs : List Nat} {j : Nat}, j ∈ vs → j < σ.length → (wipe σ vs)[j]? = some none
  | [], _, h, _ => by cases h
  | v :: vs, j, h, hl => by
    unfold wipe
    by_cases q : v = j
    · subst q
      rw [List.getElem?_set_self (by rw [wipe_length]; exact hl)]
    · rw [List.getElem?_set_ne q]
      exact wipe_in (by simpa [Ne.symm q] using h) hl
theorem wipe_ext {σ σ' : L2.St} {vs : List Nat} (hl : σ'.length = σ.length) (h : ∀ j, j ∉ vs → σ'[j]? = σ[j]?) : wipe σ' vs = wipe σ vs := by
  refine List.ext_getElem? fun j => ?_
  by_cases q : j ∈ vs
  · by_cases z : j < σ.length
    · rw [wipe_in q z, wipe_in q (by omega)]
    · rw [List.getElem?_eq_none (by rw [wipe_length]; omega), List.getElem?_eq_none (by rw [wipe_length]; omega)]
  · rw [wipe_out q, wipe_out q]
    exact h j q
theorem ne_ow {S : List Addr} {A : Nat → List Addr} {D b : Addr} {i : Nat} (hD : ¬ Ow S A D) (hb : b ∈ A i) : b ≠ D := fun q => hD (.inr ⟨i, by rw [← q]; exact hb⟩)
/-- an object that is nobody's is changed -/
theorem Rel.off {K : PySem.W.Frag} {F H : Hp} {S : List Addr} {σ : L2.St} {st : St} {A : Nat → List Addr} (R : Rel K F H S σ st A) {D : Addr} {u : HO} (hF : F D = none) (hD : ¬ Ow S A D) : Rel K F (upd H D u) S σ st A where
  same := fun b o e => by rw [upd_ne (ne_of_none e hF)]; exact R.same b o e
  slots := fun i o e => by
    obtain ⟨v, h1, h2⟩ := R.slots i o e
    exact ⟨v, h1, h2.keep (Same.refl _) fun b hb w z => by rw [upd_ne (ne_ow hD hb)]; exact z⟩
  nobor := R.nobor
  nod := R.nod
  dis := R.dis
  out := fun i b hb => by
    obtain ⟨h1, h2, h3⟩ := R.out i b hb
    exact ⟨h1, h2, h3.keep fun o z => by rw [upd_ne (ne_ow hD hb)]; exact z⟩
  emp := R.emp
  src := by
    have q := R.src
    cases hs : st.src with
    | none => rw [hs] at q; exact q
    | some s =>
      rw [hs] at q
      obtain ⟨sa, ca, e, f1, f2, h1, h2⟩ := q
      have n1 : sa ≠ D := fun z => hD (.inl (by rw [e, ← z]; exact List.mem_cons_self))
      have n2 : ca ≠ D := fun z => hD (.inl (by rw [e, ← z]; exact List.mem_cons_of_mem _ List.mem_cons_self))
      exact ⟨sa, ca, e, f1, f2, by rw [upd_ne n1]; exact h1, by rw [upd_ne n2]; exact h2⟩
  len := R.len
theorem Step.off {F H F1 H1 : Hp} {W W1 : Addr → Prop} {D : Addr} {u : HO} (st : Step F H W F1 H1 W1) (hD : W1 D) : Step F H W F1 (upd H1 D u) W1 := st.trans
  ⟨Same.refl _, fun b o e n => by rw [upd_ne (fun q => n (by rw [q]; exact hD))]; exact e, fun b h => by
    by_cases q : b = D
    · rw [q, upd_same]; exact fun z => nomatch z
    · rw [upd_ne q]; exact h, fun b h => .inl h, fun b h => .inl h⟩

/-! ### list comprehensions -/
def tOc (Φ : Fs) (K : PySem.W.Frag) (c : Oc) : TT := fun σ H Q => ∃ F S st A b st', Rel K F H S σ st A ∧ evOc Φ c st = some (b, st') ∧ ∀ F' H' A', PostT K F H S σ σ A st' F' H' A' → Q b H'
theorem PTs.imp {X : Cx} {e : List Expr} {t t' : TT} (h : PTs X e t) (i : ∀ σ H Q, t' σ H Q → t σ H Q) : PTs X e t' := ⟨fun pins s σ H Q I q => h.run pins s σ H Q I (i σ H Q q)⟩
theorem c_no {X : Cx} {Φ : Fs} : PTs X [] (tOc Φ X.K .no) := PTs.imp pts_nil fun σ H Q h => by
  obtain ⟨F, S, st, A, b, st', R, e, k⟩ := h
  rw [evOc] at e
  cases e
  exact k _ _ _ (.here R)
theorem c_yes {X : Cx} {Φ : Fs} {c : Expr} {t : T} (h : PT X c (tT Φ X.K t)) : PTs X [c] (tOc Φ X.K (.yes t)) := PTs.imp (pts_one h) fun σ H Q h => by
  obtain ⟨F, S, st, A, b, st', R, e, k⟩ := h
  rw [evOc] at e
  exact ⟨F, S, st, A, b, st', R, e, k⟩
theorem datAll_len : ∀ {os : List O} {xs : List PyData}, datAll os = some xs → os.length = xs.length
  | [], _, e => by cases e; rfl
  | o :: os, xs, e => by
    unfold datAll at e
    obtain ⟨x, _, e⟩ := bindE e
    obtain ⟨ys, e2, e⟩ := mapE e
    cases e
    simp [datAll_len e2]
theorem DenAll.snoc {K : PySem.W.Frag} {F : Hp} {vs : List V} {ds : List PyData} {v : V} {d : PyData} (h : DenAll K F vs ds) (g : Den K F v d) : DenAll K F (vs ++ [v]) (ds ++ [d]) := h.append (.cons g .nil)
/-- what stands at the beginning of each turn -/
def LcI (Φ : Fs) (K : PySem.W.Frag) (own : List Nat) (f : PyData → St → Option (Option O × St)) (S : List Addr) (σ : L2.St) (F1 H1 : Hp) (A1 : Nat → List Addr) (D : Addr) (s5 : St) (ys todo : List PyData) (H : Hp) : Prop :=
  ∃ F st A acc done rest ysr, Rel K F H S (wipe σ own) st A ∧ Step F1 H1 (Ow S A1) F H (fun b => Ow S A b ∨ b = D) ∧ H D = some (.lst acc) ∧ DenAll K F acc done ∧ F D = none ∧ ¬ Ow S A D ∧ lcLoop f own todo st = some (rest, s5) ∧ datAll rest = some ysr ∧ done ++ ysr = ys
theorem keep1 {F H F1 H1 : Hp} {W W1 : Addr → Prop} {D : Addr} {u : HO} (st : Step F H W F1 H1 W1) (f : F D = none) (n : ¬ W D) (e : H D = some u) (m : Mu H D) : F1 D = none ∧ ¬ W1 D ∧ H1 D = some u := by
  have q := side_new (B := [D]) st (fun b hb => by
    have z : b = D := by simpa using hb
    subst z
    exact ⟨f, n, m⟩) D List.mem_cons_self
  exact ⟨q.1, q.2.1, st.keep D u e n⟩
section
variable {X : Cx} {Φ : Fs} {elt tg iter : Expr} {ifs : List Expr} {scope : Scope} {own : List (Str × Nat)} {pos : Pos} {ee : E} {et : Tg} {ei : Vm.It} {ec : Oc}
theorem e_lc (hc : X.calm = true) (hN : X.N.Nodup) (hi : PI X tg iter (tIt Φ X.K ei)) (ok : BlkOk X.N X.env.scope scope own) (hsub : ∀ j ∈ tgN et, j ∈ own.map (·.2))
    (hg : ∀ (s : Shared) (H : Hp) (C : Addr) (cl : List (Str × Addr)) (fp : List Addr), PG (X.blk s H scope (compEnvC scope cl C X.env) fp) tg (gT X.K et)) (ht : ∀ (s : Shared) (H : Hp) (C : Addr) (cl : List (Str × Addr)) (fp : List Addr), PTs (X.blk s H scope (compEnvC scope cl C X.env) fp) ifs (tOc Φ X.K ec))
    (he : ∀ (s : Shared) (H : Hp) (C : Addr) (cl : List (Str × Addr)) (fp : List Addr), PE (X.blk s H scope (compEnvC scope cl C X.env) fp) elt (tE Φ X.K ee)) (hs : ∀ x, foldedSetIterable iter X.env x = pure x) :
    PE X (.ListComp elt [⟨tg, iter, ifs, 0⟩] scope pos) (tE Φ X.K (.lc false ee et ei ec (own.map (·.2)))) := PE.imp (pe_lc hc hN hi ok hg ht he hs) fun σ H Q h => by
  obtain ⟨F, S, st, A, o, st', R, e, k⟩ := h
  rw [evE] at e
  obtain ⟨⟨xs, s1⟩, h1, e⟩ := bindE e
  obtain ⟨⟨os, s5⟩, h2, e⟩ := bindE e
  dsimp only at e h2
  split at e
  case isFalse => cases e
  rename_i hz
  rw [if_neg Bool.false_ne_true] at e
  obtain ⟨ys, h3, e⟩ := mapE e
  cases e
  generalize hO : own.map (·.2) = ow at *
  generalize hf : (fun (x : PyData) (s : St) => (asg et x s).bind fun s2 => (evOc Φ ec s2).bind fun (t, s3) => if t then (evE Φ ee s3).map fun (o, s4) => (some o, s4) else some (none, s3)) = f at h2
  refine ⟨F, S, st, A, xs, s1, R, h1, fun J F1 H1 A1 p dl => fun D hD => ⟨fun i m Hc => m = xs.length - i ∧ i ≤ xs.length ∧ LcI Φ X.K ow f S σ F1 H1 A1 D st' ys (xs.drop i) Hc, ⟨xs.length, rfl, Nat.zero_le _, ?_⟩, ?_⟩⟩
  · have fD := p.rel.same.free hD
    have nD : ¬ Ow S (clA ow A1) D := fun z => by
      rcases clA_sub z with z | ⟨j, z⟩
      · have rs := p.rel.src
        cases hs : s1.src with
        | none => rw [hs] at rs; have rs : S = [] := rs; rw [rs] at z; cases z
        | some s =>
          rw [hs] at rs
          obtain ⟨sa, ca, e, _, _, g1, g2⟩ := rs
          rw [e] at z
          rcases List.mem_cons.mp z with z | z
          · rw [z, g1] at hD; cases hD
          · have z : D = ca := by simpa using z
            rw [z, g2] at hD; cases hD
      · exact (p.rel.out j D z).2.2.ne hD
    refine ⟨F1, clr ow s1, clA ow A1, [], [], os, ys, ?_, ?_, upd_same, .nil, fD, nD, by rw [List.drop_zero]; exact h2, h3, rfl⟩
    · exact (p.rel.clear (by rw [wipe_length]; exact Nat.le_refl _) fun j hj => wipe_out hj).off fD nD
    · refine ⟨Same.refl _, fun b u e _ => by rw [upd_ne (ne_of_none e hD)]; exact e, fun b h => ?_, fun b h => ?_, fun b h => .inl h⟩
      · rw [upd_ne (fun q => h (by rw [q]; exact hD))]; exact h
      · rcases h with h | h
        · exact .inl (clA_sub h)
        · exact .inr (by rw [h]; exact hD)
  · rintro i m Hc ⟨rfl, hi', Fc, stc, Ac, acc, done, rest, ysr, Rc, Sc, hDc, dn, fD, nD, hl, hr, hy⟩
    by_cases hlt : i < xs.length
    · have hx : xs[i]? = some xs[i] := List.getElem?_eq_getElem hlt
      have hdr : xs.drop i = xs[i] :: xs.drop (i + 1) := List.drop_eq_getElem_cons hlt
      obtain ⟨go, yl⟩ := (dl Fc Hc Sc.fr Rc.same i).1 _ hx
      rw [hdr, lcLoop] at hl
      obtain ⟨⟨o1, sA⟩, hf1, hl⟩ := bindE hl
      obtain ⟨⟨os', s6⟩, hl1, hl⟩ := mapE hl
      cases hl
      refine .inr ⟨go, LcI Φ X.K ow f S σ F1 H1 A1 D st' ys (xs.drop (i + 1)), fun H' n => ⟨xs.length - (i + 1), by omega, rfl, hlt, n⟩, fun x H2 y => ?_⟩
      obtain ⟨F2, gr, dx⟩ := yl x H2 y
      rw [← hf] at hf1
      obtain ⟨s2, ha, hf1⟩ := bindE hf1
      obtain ⟨⟨t, s3⟩, hc1, hf1⟩ := bindE hf1
      dsimp only at hf1
      refine ⟨F2, S, stc, Ac, xs[i], s2, Rc.grow gr, dx, ha, fun σ2 A2 p2 => ⟨?_, F2, S, s2, A2, t, s3, p2.post.rel, hc1, fun F3 H3 A3 p3 => ?_⟩⟩
      · have z := wipe_ext (vs := ow) p2.len fun j hj => p2.off j fun q => hj (hsub j q)
        rw [z]
        exact wipe_ext (wipe_length _ _) fun j hj => wipe_out hj
      · -- D through these steps
        have mD : Mu Hc D := .inl ⟨acc, hDc⟩
        have S3 : Step Fc Hc (Ow S Ac) F3 H3 (Ow S A3) := ((gr.step (W := Ow S Ac)).trans p2.post.step).trans p3.step
        obtain ⟨fD3, nD3, hD3⟩ := keep1 S3 fD nD hDc mD
        have S13 : Step F1 H1 (Ow S A1) F3 H3 (fun b => Ow S A3 b ∨ b = D) := Sc.trans (S3.side fun b => b = D)
        have hle : ∀ σ2' : L2.St, σ2'.length = (wipe σ ow).length → (wipe σ ow).length ≤ σ2'.length := fun _ h => by rw [h]; exact Nat.le_refl _
        have back : ∀ (F4 H4 : Hp) (A4 : Nat → List Addr) (s4 : St), Rel X.K F4 H4 S σ2 s4 A4 → Rel X.K F4 H4 S (wipe σ ow) (clr ow s4) (clA ow A4) := fun F4 H4 A4 s4 r => r.clear (by rw [p2.len]; exact Nat.le_refl _) fun j hj => (p2.off j fun q => hj (hsub j q)).symm
        cases t with
        | false =>
          rw [if_neg Bool.false_ne_true] at hf1
          show (if false = true then _ else _)
          rw [if_neg Bool.false_ne_true]
          cases hf1
          exact ⟨F3, clr ow _, clA ow A3, acc, done, _, ysr, back _ _ _ _ p3.rel, S13.weak fun b h => h.imp clA_sub id, hD3, dn.mono S3.fr, fD3, fun z => nD3 (clA_sub z), hl1, hr, hy⟩
        | true =>
          rw [if_pos rfl] at hf1
          show (if true = true then _ else _)
          rw [if_pos rfl]
          obtain ⟨⟨oe, s4⟩, he1, hf1⟩ := mapE hf1
          cases hf1
          have hr' : datAll (oe :: os') = some ysr := hr
          unfold datAll at hr'
          obtain ⟨y0, hy0, hr'⟩ := bindE hr'
          obtain ⟨ysr', hr2, hr'⟩ := mapE hr'
          cases hr'
          refine ⟨F3, S, s3, A3, oe, s4, p3.rel, he1, fun v F4 H4 A4 B p4 => ?_⟩
          obtain ⟨t4, dv⟩ := p4.dat1 hy0
          obtain ⟨fD4, nD4, hD4⟩ := keep1 t4.step fD3 nD3 hD3 (.inl ⟨acc, hD3⟩)
          refine ⟨acc, hD4, ?_, ?_⟩
          · have e1 := dn.length
            have e2 := datAll_len h3
            have e3 := congrArg List.length hy
            simp only [List.length_append, List.length_cons] at e3
            omega
          · refine ⟨_, clr ow _, clA ow A4, acc ++ [v], done ++ [y0], os', ysr', (back _ _ _ _ t4.rel).off fD4 (fun z => nD4 (clA_sub z)), ?_, upd_same, ?_, fD4, fun z => nD4 (clA_sub z), hl1, hr2, by rw [← hy]; simp⟩
            · exact ((S13.trans (t4.step.side fun b => b = D)).off (.inr rfl)).weak fun b h => h.imp clA_sub id
            · exact (dn.mono (S3.fr.trans t4.step.fr)).snoc dv
    · have e : i = xs.length := by omega
      subst e
      refine .inl ⟨(dl Fc Hc Sc.fr Rc.same _).2 (Nat.le_refl _), ?_⟩
      rw [List.drop_length, lcLoop] at hl
      cases hl
      cases hr
      rw [List.append_nil] at hy
      subst hy
      refine k (.ref D) Fc Hc Ac [D] ⟨(p.step.trans Sc).weak fun b h => h.imp id fun h => by simpa using h, Rc.unwipe, ⟨D, acc, rfl, rfl, hDc, dn⟩, by simp, fun b hb => ?_⟩
      have z : b = D := by simpa using hb
      subst z
      exact ⟨fD, nD, .inl ⟨acc, hDc⟩⟩
end
end Vm


set_option Elab.async false
set_option linter.all false
set_option maxRecDepth 100000
/-! Vm, part 17: statements. -/
namespace Vm
open PySem PySem.Spec PyProof.Rows L2

/-- behind a return -/
structure PostR (K : PySem.W.Frag) (F H : Hp) (S : List Addr) (A : Nat → List Addr) (o : O) (src' : Option Src) (v : V) (F' H' : Hp) (B : List Addr) : Prop where
  step : Step F H (Ow S A) F' H' (fun b => b ∈ S ∨ b ∈ B)
  same : Same F' H'
  src : SrcRel F' H' S src'
  own : OwnAt K F' H' S [] o v B
  nod : B.Nodup
  new : ∀ b ∈ B, F' b = none ∧ b ∉ S ∧ Mu H' b
def OutOk (K : PySem.W.Frag) (F H : Hp) (S : List Addr) (σ : L2.St) (A : Nat → List Addr) (D : Ends) : Out → Prop
  | .nx st' => ∀ σ' F' H' A', PostT K F H S σ σ' A st' F' H' A' → D.nx σ' H'
  | .brk st' => ∀ σ' F' H' A', PostT K F H S σ σ' A st' F' H' A' → D.bk σ' H'
  | .cnt st' => ∀ σ' F' H' A', PostT K F H S σ σ' A st' F' H' A' → D.ct σ' H'
  | .ret o src' => ∀ v F' H' B, PostR K F H S A o src' v F' H' B → D.rt v H'
theorem OutOk.after {K : PySem.W.Frag} {F H F1 H1 : Hp} {S : List Addr} {σ σ1 : L2.St} {A A1 : Nat → List Addr} {D : Ends} {s1 : St} {out : Out} (k : OutOk K F H S σ A D out) (p : PostT K F H S σ σ1 A s1 F1 H1 A1) : OutOk K F1 H1 S σ1 A1 D out := by
  cases out with
  | nx st' => exact fun σ' F' H' A' q => k σ' F' H' A' (p.trans q)
  | brk st' => exact fun σ' F' H' A' q => k σ' F' H' A' (p.trans q)
  | cnt st' => exact fun σ' F' H' A' q => k σ' F' H' A' (p.trans q)
  | ret o src' => exact fun v F' H' B q => k v F' H' B ⟨p.step.trans q.step, q.same, q.src, q.own, q.nod, q.new⟩
def tS (Φ : Fs) (K : PySem.W.Frag) (s : S) : TS := fun D σ H => ∃ F Sa st A out, Rel K F H Sa σ st A ∧ evS Φ s st = some out ∧ OutOk K F H Sa σ A D out
def tSs (Φ : Fs) (K : PySem.W.Frag) (s : Ss) : TS := fun D σ H => ∃ F Sa st A out, Rel K F H Sa σ st A ∧ evSs Φ s st = some out ∧ OutOk K F H Sa σ A D out
theorem PostT.grow {K : PySem.W.Frag} {F H F1 H1 : Hp} {S : List Addr} {σ : L2.St} {A : Nat → List Addr} {st : St} (R : Rel K F H S σ st A) (g : Grow F H F1 H1) : PostT K F H S σ σ A st F1 H1 A := ⟨g.step, R.grow g⟩

section
variable {X : Cx} {Φ : Fs} {a b c : Expr} {ea eb ec : E} {pos p : Pos} {st : Stmt} {sts : List Stmt} {es : S} {ess : Ss}
theorem ss_nil : PSs X [] (tSs Φ X.K .nil) := PSs.imp pss_nil fun D σ H h => by
  obtain ⟨F, S, st, A, out, R, e, k⟩ := h
  rw [evSs] at e
  cases e
  exact k _ _ _ _ (.here R)
theorem ss_cons (h1 : PS X st (tS Φ X.K es)) (h2 : PSs X sts (tSs Φ X.K ess)) : PSs X (st :: sts) (tSs Φ X.K (.cons es ess)) := PSs.imp (pss_cons h1 h2) fun D σ H h => by
  obtain ⟨F, S, st, A, out, R, e, k⟩ := h
  rw [evSs] at e
  cases h1 : evS Φ es st with
  | none => rw [h1] at e; cases e
  | some o1 =>
    refine ⟨F, S, st, A, o1, R, h1, ?_⟩
    rw [h1] at e
    cases o1 with
    | nx s1 => exact fun σ' F' H' A' p => ⟨F', S, s1, A', out, p.rel, e, k.after p⟩
    | brk s1 => cases e; exact k
    | cnt s1 => cases e; exact k
    | ret o s1 => cases e; exact k
theorem s_pass : PS X (.Pass pos) (tS Φ X.K .pass) := PS.imp ps_pass fun D σ H h => by
  obtain ⟨F, S, st, A, out, R, e, k⟩ := h
  rw [evS] at e
  cases e
  exact k _ _ _ _ (.here R)
theorem s_brk : PS X (.Break pos) (tS Φ X.K .brk) := PS.imp ps_break fun D σ H h => by
  obtain ⟨F, S, st, A, out, R, e, k⟩ := h
  rw [evS] at e
  cases e
  exact k _ _ _ _ (.here R)
theorem s_cnt : PS X (.Continue pos) (tS Φ X.K .cnt) := PS.imp ps_continue fun D σ H h => by
  obtain ⟨F, S, st, A, out, R, e, k⟩ := h
  rw [evS] at e
  cases e
  exact k _ _ _ _ (.here R)
theorem s_ret (h : PE X a (tE Φ X.K ea)) : PS X (.Return (some a) pos) (tS Φ X.K (.ret ea)) := PS.imp (ps_ret h) fun D σ H h => by
  obtain ⟨F, S, st, A, out, R, e, k⟩ := h
  rw [evS] at e
  obtain ⟨⟨o, s1⟩, h1, e⟩ := bindE e
  dsimp only at e
  split at e
  · rename_i hs
    cases e
    refine one_read R h1 fun v F' H' A' B q => k v F' H' B ⟨q.step.weak fun b h => h.imp .inl id, q.rel.same, q.rel.src, q.own.unslot (fun i z => by rw [z] at hs; cases hs), q.nod, fun b hb => ⟨(q.new b hb).1, fun z => (q.new b hb).2.1 (.inl z), (q.new b hb).2.2⟩⟩
  · cases e
theorem s_retn : PS X (.Return none pos) (tS Φ X.K .retn) := PS.imp ps_retN fun D σ H h => by
  obtain ⟨F, S, st, A, out, R, e, k⟩ := h
  rw [evS] at e
  cases e
  exact k .non F H [] ⟨Step.refl.weak fun b h => h.elim .inl (fun z => nomatch z), R.same, R.src, ⟨rfl, .non⟩, List.nodup_nil, fun _ z => nomatch z⟩
theorem s_ifs {t : T} {A B : List Stmt} {ea eb : Ss} (hc : PT X c (tT Φ X.K t)) (ha : PSs X A (tSs Φ X.K ea)) (hb : PSs X B (tSs Φ X.K eb)) : PS X (.If c A B pos) (tS Φ X.K (.ifs t ea eb)) := PS.imp (ps_if hc ha hb) fun D σ H h => by
  obtain ⟨F, S, st, A, out, R, e, k⟩ := h
  rw [evS] at e
  obtain ⟨⟨x, s1⟩, h1, e⟩ := bindE e
  refine ⟨F, S, st, A, x, s1, R, h1, fun F' H' A' p => ?_⟩
  cases x with
  | true => exact ⟨F', S, s1, A', out, p.rel, e, k.after p⟩
  | false => exact ⟨F', S, s1, A', out, p.rel, e, k.after p⟩
theorem put_some {st st' : St} {i : Nat} {o : O} (e : put st i o = some st') : i < st.ρ.length ∧ o.slot = true ∧ st' = st.set i (some o) := by
  unfold put at e
  split at e
  · rename_i h
    cases e
    exact ⟨h.1, h.2, rfl⟩
  · cases e
theorem slot_nobor {o : O} (h : o.slot = true) : ∀ i, o ≠ .bor i := fun i z => by rw [z] at h; cases h
/-- a value goes into a name -/
theorem Post.put {K : PySem.W.Frag} {F H F1 H1 : Hp} {S : List Addr} {σ : L2.St} {A A1 : Nat → List Addr} {o : O} {s1 s2 : St} {v : V} {B : List Addr} {i : Nat} (p : Post K F H S σ A o s1 v F1 H1 A1 B) (e : put s1 i o = some s2) : PostT K F H S σ (σ.set i (some v)) A s2 F1 H1 (upA A1 i B) := by
  obtain ⟨hl, hs, rfl⟩ := put_some e
  refine ⟨p.step.weak fun b h => ow_upB h, p.rel.slot hl hs (p.own.reσ (slot_nobor hs)) (List.getElem?_set_self (Nat.lt_of_lt_of_le hl p.rel.len)) (fun j hj => List.getElem?_set_ne (Ne.symm hj)) p.nod fun b hb => ⟨(p.new b hb).1, fun z => (p.new b hb).2.1 (.inl z), (p.new b hb).2.2, fun j _ z => (p.new b hb).2.1 (.inr ⟨j, z⟩)⟩⟩
theorem s_set {i : Nat} {x : Str} {px : Pos} (hN : X.N.Nodup) (hi : X.N[i]? = some x) (hx : Loc X.env.scope x) (ha : PE X a (tE Φ X.K ea)) (hs : swapsWith a (some (.Name x px)) pos.line X.env = pure false) (hf : X.fn x = true ∨ X.env.scope.names.lookup x = some .local) :
    PS X (.Assign [.Name x px] a pos) (tS Φ X.K (.set i ea)) := PS.imp (ps_set hN hi hx ha hs hf) fun D σ H h => by
  obtain ⟨F, S, st, A, out, R, e, k⟩ := h
  rw [evS] at e
  obtain ⟨⟨o, s1⟩, h1, e⟩ := bindE e
  obtain ⟨s2, h2, e⟩ := mapE e
  cases e
  exact one_read R h1 fun v F' H' A' B q => k _ _ _ _ (q.put h2)

/-! ### several names at once -/
def sets : List Nat → List V → L2.St → L2.St
  | i :: is, v :: vs, σ => sets is vs (σ.set i (some v))
  | _, _, σ => σ
theorem puts_ok {K : PySem.W.Frag} {S : List Addr} {F H F1 H1 : Hp} {σ0 : L2.St} {A : Nat → List Addr} : ∀ {is : List Nat} {os : List O} {vs : List V} {B : List Addr} {σ : L2.St} {A1 : Nat → List Addr} {s1 s2 : St},
    Step F H (Ow S A) F1 H1 (fun b => Ow S A1 b ∨ b ∈ B) → Rel K F1 H1 S σ s1 A1 → OwnAll K F1 H1 S σ0 os vs B → B.Nodup → (∀ b ∈ B, F1 b = none ∧ ¬ Ow S A1 b ∧ Mu H1 b) → puts is os s1 = some s2 → ∃ A2, PostT K F H S σ0 (sets is vs σ) A s2 F1 H1 A2 := by
  intro is
  induction is with
  | nil =>
    intro os vs B σ A1 s1 s2 st R ow nd new e
    cases os with
    | cons o os => unfold puts at e; cases e
    | nil =>
      cases ow
      unfold puts at e
      cases e
      exact ⟨A1, st.weak fun b h => .inl h, R⟩
  | cons i is ih =>
    intro os vs B σ A1 s1 s2 st R ow nd new e
    cases ow with
    | nil => unfold puts at e; cases e
    | @cons o v B os vs Bs h t =>
      unfold puts at e
      obtain ⟨s', e1, e2⟩ := bindE e
      obtain ⟨hl, hs, rfl⟩ := put_some e1
      obtain ⟨n1, n2, n3⟩ := List.nodup_append.mp nd
      have R' : Rel K F1 H1 S (σ.set i (some v)) (s1.set i (some o)) (upA A1 i B) := R.slot hl hs (h.reσ (slot_nobor hs)) (List.getElem?_set_self (Nat.lt_of_lt_of_le hl R.len)) (fun j hj => List.getElem?_set_ne (Ne.symm hj)) n1 fun b hb => by
        obtain ⟨q1, q2, q3⟩ := new b (List.mem_append_left _ hb)
        exact ⟨q1, fun z => q2 (.inl z), q3, fun j _ z => q2 (.inr ⟨j, z⟩)⟩
      refine ih (os := os) (B := Bs) (σ := σ.set i (some v)) (st.weak fun b h => ?_) R' t n2 (fun b hb => ?_) e2
      · rcases h with h | h
        · rcases ow_upB h with h | h
          · exact .inl h
          · exact .inr (List.mem_append_left _ h)
        · exact .inr (List.mem_append_right _ h)
      · obtain ⟨q1, q2, q3⟩ := new b (List.mem_append_right _ hb)
        refine ⟨q1, fun z => ?_, q3⟩
        rcases ow_upB z with z | z
        · exact q2 z
        · exact n3 b z b hb rfl
theorem s_par2 {i j : Nat} {x y : Str} {px py pt pt2 : Pos} {kt k2 : Nat} {es : Es} (hc : X.calm = true) (hN : X.N.Nodup) (hi : X.N[i]? = some x) (hj : X.N[j]? = some y) (hij : i ≠ j)
    (hx : X.env.scope.names.lookup x = some .local) (hy : X.env.scope.names.lookup y = some .local) (ha : PA X [a, b] (tEs Φ X.K es))
    (hw : swappedStores [.Tuple [.Name x px, .Name y py] kt pt] (.Tuple [a, b] k2 pt2) X.env = pure (some [x, y])) :
    PS X (.Assign [.Tuple [.Name x px, .Name y py] kt pt] (.Tuple [a, b] k2 pt2) pos) (tS Φ X.K (.par [i, j] es)) := PS.imp (ps_par hc hN hi hj hij hx hy ha hw) fun D σ H h => by
  obtain ⟨F, S, st, A, out, R, e, k⟩ := h
  rw [evS] at e
  obtain ⟨⟨os, s1⟩, h1, e⟩ := bindE e
  obtain ⟨s2, h2, e⟩ := mapE e
  cases e
  refine ⟨F, S, st, A, os, s1, R, h1, fun vs F1 H1 A1 B q => ?_⟩
  obtain ⟨A2, t⟩ := puts_ok q.step q.rel q.own q.nod q.new h2
  cases os with
  | nil => unfold puts at h2; cases h2
  | cons o1 os =>
    cases os with
    | nil => unfold puts at h2; obtain ⟨_, _, h2⟩ := bindE h2; unfold puts at h2; cases h2
    | cons o2 os =>
      cases os with
      | cons o3 os => unfold puts at h2; obtain ⟨_, _, h2⟩ := bindE h2; unfold puts at h2; obtain ⟨_, _, h2⟩ := bindE h2; unfold puts at h2; cases h2
      | nil =>
        cases q.own with
        | cons _ q2 =>
          cases q2 with
          | cons _ q3 =>
            cases q3
            exact ⟨_, _, rfl, k _ _ _ _ t⟩
theorem s_par3 {i j l : Nat} {x y z : Str} {px py pz pt pt2 : Pos} {kt k2 : Nat} {es : Es} (hc : X.calm = true) (hN : X.N.Nodup) (hi : X.N[i]? = some x) (hj : X.N[j]? = some y) (hl : X.N[l]? = some z) (hij : i ≠ j) (hil : i ≠ l) (hjl : j ≠ l)
    (hx : X.env.scope.names.lookup x = some .local) (hy : X.env.scope.names.lookup y = some .local) (hz : X.env.scope.names.lookup z = some .local) (ha : PA X [a, b, c] (tEs Φ X.K es))
    (hw : swappedStores [.Tuple [.Name x px, .Name y py, .Name z pz] kt pt] (.Tuple [a, b, c] k2 pt2) X.env = pure (some [x, y, z])) :
    PS X (.Assign [.Tuple [.Name x px, .Name y py, .Name z pz] kt pt] (.Tuple [a, b, c] k2 pt2) pos) (tS Φ X.K (.par [i, j, l] es)) := PS.imp (ps_par3 hc hN hi hj hl hij hil hjl hx hy hz ha hw) fun D σ H h => by
  obtain ⟨F, S, st, A, out, R, e, k⟩ := h
  rw [evS] at e
  obtain ⟨⟨os, s1⟩, h1, e⟩ := bindE e
  obtain ⟨s2, h2, e⟩ := mapE e
  cases e
  refine ⟨F, S, st, A, os, s1, R, h1, fun vs F1 H1 A1 B q => ?_⟩
  obtain ⟨A2, t⟩ := puts_ok q.step q.rel q.own q.nod q.new h2
  cases os with
  | nil => unfold puts at h2; cases h2
  | cons o1 os =>
    cases os with
    | nil => unfold puts at h2; obtain ⟨_, _, h2⟩ := bindE h2; unfold puts at h2; cases h2
    | cons o2 os =>
      cases os with
      | nil => unfold puts at h2; obtain ⟨_, _, h2⟩ := bindE h2; unfold puts at h2; obtain ⟨_, _, h2⟩ := bindE h2; unfold puts at h2; cases h2
      | cons o3 os =>
        cases os with
        | cons o4 os => unfold puts at h2; obtain ⟨_, _, h2⟩ := bindE h2; unfold puts at h2; obtain ⟨_, _, h2⟩ := bindE h2; unfold puts at h2; obtain ⟨_, _, h2⟩ := bindE h2; unfold puts at h2; cases h2
        | nil =>
          cases q.own with
          | cons _ q2 =>
            cases q2 with
            | cons _ q3 =>
              cases q3 with
              | cons _ q4 =>
                cases q4
                exact ⟨_, _, _, rfl, k _ _ _ _ t⟩
end
end Vm


set_option Elab.async false
set_option linter.all false
set_option maxRecDepth 100000
/-! Vm, part 18: several names by a tuple, stores, append, for. -/
namespace Vm
open PySem PySem.Spec PyProof.Rows L2

section
variable {K : PySem.W.Frag} {F H F1 H1 F2 H2 : Hp} {S : List Addr} {σ : L2.St} {A A1 A2 : Nat → List Addr} {st s1 s2 : St}
theorem PostL.grow {os : List O} {vs : List V} {B : List Addr} (q : PostL K F H S σ A os s1 vs F1 H1 A1 B) (g : Grow F1 H1 F2 H2) : PostL K F H S σ A os s1 vs F2 H2 A1 B := by
  have z := side_new (W := Ow S A1) (W' := Ow S A1) g.step fun b hb => ⟨(q.new b hb).1, (q.new b hb).2.1, (q.new b hb).2.2⟩
  exact ⟨q.step.trans (g.step), q.rel.grow g, q.own.past (g.step (W := Ow S A1)) fun b hb => (q.new b hb).2.1, q.nod, z⟩
/-- slot i's object is changed in its place -/
theorem Rel.putAt {i : Nat} {o o' : O} {a : Addr} {u : HO} (R : Rel K F H S σ st A) (q : st.ρ[i]? = some (some o)) (hA : A i = [a]) (hv : σ[i]? = some (some (.ref a))) (h : OwnAt K F (upd H a u) S σ o' (.ref a) [a]) (hs : o'.slot = true) (mu : Mu (upd H a u) a) :
    Rel K F (upd H a u) S σ (st.set i (some o')) A := by
  have hm : a ∈ A i := by rw [hA]; exact List.mem_cons_self
  obtain ⟨f1, f2, _⟩ := R.out i a hm
  have n1 : ¬ Ow S (upA A i []) a := fun z => by
    rcases z with z | ⟨j, z⟩
    · exact f2 z
    · by_cases r : j = i
      · rw [r, upA_same] at z; cases z
      · rw [upA_ne r] at z
        exact r (R.dis j i a z hm)
  have hi := lt_of_slot q
  have R1 := ((R.drop (i := i) (σ' := σ) fun _ _ => rfl).off (D := a) (u := u) f1 n1)
  have R2 := R1.slot (i := i) (o := o') (v := .ref a) (B := [a]) (σ' := σ) (by show i < (st.ρ.set i none).length; rw [List.length_set]; exact hi) hs h hv (fun _ _ => rfl) (by simp) fun b hb => by
    have e : b = a := by simpa using hb
    subst e
    exact ⟨f1, f2, mu, fun j hj z => n1 (.inr ⟨j, z⟩)⟩
  have es : (st.set i none).set i (some o') = st.set i (some o') := by unfold St.set; simp
  have eA : upA (upA A i []) i [a] = A := by
    funext j
    unfold upA
    by_cases r : j = i
    · simp [r, hA]
    · simp [r]
  rw [es, eA] at R2
  exact R2
theorem PostT.putAt {i : Nat} {o o' : O} {a : Addr} {u : HO} (p : PostT K F H S σ σ A s1 F1 H1 A1) (q : s1.ρ[i]? = some (some o)) (hA : A1 i = [a]) (hv : σ[i]? = some (some (.ref a))) (h : OwnAt K F1 (upd H1 a u) S σ o' (.ref a) [a]) (hs : o'.slot = true) (mu : Mu (upd H1 a u) a) :
    PostT K F H S σ σ A (s1.set i (some o')) F1 (upd H1 a u) A1 :=
  ⟨p.step.off (.inr ⟨i, by rw [hA]; exact List.mem_cons_self⟩), p.rel.putAt q hA hv h hs mu⟩
end

section
variable {X : Cx} {Φ : Fs} {a b c : Expr} {ea eb ec : E} {pos p : Pos} {as : List Expr}
/-! ### several names by a tuple -/
def gNms (is : List Nat) : TGs := fun vs σ H Q => vs.length = is.length ∧ Q (sets is vs σ) H
theorem gn_nil : PGs X [] (gNms []) := PGs.imp pgs_nil fun v σ H Q h => by
  obtain ⟨h1, h2⟩ := h
  cases v with
  | nil => exact ⟨rfl, h2⟩
  | cons a b => cases h1
theorem gn_cons {i : Nat} {is : List Nat} {e : Expr} {es : List Expr} (h1 : PG X e (gName i)) (h2 : PGs X es (gNms is)) (hs : (assignEach (e :: es) X.env).map (·.2) = assign e X.env :: (assignEach es X.env).map (·.2)) : PGs X (e :: es) (gNms (i :: is)) := PGs.imp (pgs_cons h1 h2 hs) fun v σ H Q h => by
  obtain ⟨h1, h2⟩ := h
  cases v with
  | nil => cases h1
  | cons a b => exact ⟨_, _, rfl, by simpa using h1, h2⟩
theorem puts_len : ∀ {is : List Nat} {os : List O} {s1 s2 : St}, puts is os s1 = some s2 → os.length = is.length
  | [], [], _, _, _ => rfl
  | [], _ :: _, _, _, e => by unfold puts at e; cases e
  | _ :: _, [], _, _, e => by unfold puts at e; cases e
  | i :: is, o :: os, s1, s2, e => by
    unfold puts at e
    obtain ⟨s', _, e⟩ := bindE e
    simp [puts_len e]
theorem s_parT {is : List Nat} {tgs : List Expr} {kt k2 : Nat} {pt pt2 : Pos} {es : Es} (hc : X.calm = true) (ht : PGs X tgs (gNms is)) (hn : (assignEach tgs X.env).length = is.length) (hst : (assignEach tgs X.env).findIdx? (·.1) = none) (hz : is.length ≤ sizeLine) (ha : PA X as (tEs Φ X.K es))
    (hw : swappedStores [.Tuple tgs kt pt] (.Tuple as k2 pt2) X.env = pure none) : PS X (.Assign [.Tuple tgs kt pt] (.Tuple as k2 pt2) pos) (tS Φ X.K (.par is es)) := PS.imp (ps_asg (pe_tup ha) (pg_tup hc ht hn hst) rfl hw rfl) fun D σ H h => by
  obtain ⟨F, S, st, A, out, R, e, k⟩ := h
  rw [evS] at e
  obtain ⟨⟨os, s1⟩, h1, e⟩ := bindE e
  obtain ⟨s2, h2, e⟩ := mapE e
  cases e
  refine ⟨F, S, st, A, os, s1, R, h1, fun vs F1 H1 A1 B q => ?_⟩
  have hl : vs.length = is.length := by rw [← PostL.len (F1 := F) (H1 := H) q.own]; exact puts_len h2
  refine ⟨by rw [hl]; exact hz, fun p hp => ⟨p, vs, rfl, .of upd_same, hl, hl, ?_⟩⟩
  have q2 := q.grow (Grow.new (u := .tup vs) q.rel.same hp)
  obtain ⟨A2, t⟩ := puts_ok q2.step q2.rel q2.own q2.nod q2.new h2
  exact k _ _ _ _ t

/-! ### stores -/
theorem PSet.or {X : Cx} {t t' : TSet} (h : PSet X t) (h' : PSet X t') : PSet X (fun o i v H Q => t o i v H Q ∨ t' o i v H Q) := by
  intro pins s σ H o i v ov iv u Q I ro ri rv q
  rcases q with q | q
  · exact h pins s σ H o i v ov iv u Q I ro ri rv q
  · exact h' pins s σ H o i v ov iv u Q I ro ri rv q
theorem own_lst {K : PySem.W.Frag} {F H : Hp} {S : List Addr} {σ : L2.St} {xs : List PyData} {v : V} {B : List Addr} (h : OwnAt K F H S σ (.lst xs) v B) : ∃ a vs, v = .ref a ∧ B = [a] ∧ H a = some (.lst vs) ∧ DenAll K F vs xs := h
theorem own_dct {K : PySem.W.Frag} {F H : Hp} {S : List Addr} {σ : L2.St} {t : Bool} {kvs : KVs} {v : V} {B : List Addr} (h : OwnAt K F H S σ (.dct t kvs) v B) : ∃ a, v = .ref a ∧ B = [a] ∧ DctAt K F H a t kvs := h
theorem own_d {K : PySem.W.Frag} {F H : Hp} {S : List Addr} {σ : L2.St} {x : PyData} {v : V} {B : List Addr} (h : OwnAt K F H S σ (.d x) v B) : B = [] ∧ Den K F v x := h
theorem s_sti {i : Nat} {x : Str} {px : Pos} {pt : Pos} (hu : X.A.units + 66 < cLine) (hi : X.N[i]? = some x) (hv : Vis X.env.scope x) (hd : (x == ("__debug__" : Str)) = false) (hcd : (x == ("__classdict__" : Str)) = false)
    (hk : PE X b (tE Φ X.K eb)) (ha : PE X a (tE Φ X.K ea)) (hs : swapsWithSole [.Subscript (.Name x px) b pt] a pos.line X.env = pure false)
    (hb : ∀ v, assign (.Subscript (.Name x px) b pt) X.env v = (do
      let ov ← holding [v] (eval (.Name x px) X.env)
      let iv ← holding [v, ov] (eval b X.env)
      standAt pt
      holding [v, ov, iv] (setItem ov iv v)
      release [v, ov, iv] [])) :
    PS X (.Assign [.Subscript (.Name x px) b pt] a pos) (tS Φ X.K (.sti i eb ea)) := PS.imp (ps_asg ha (pg_sub (pe_var hi hv hd hcd) hk (PSet.or set_list (set_dict (by omega))) hb) hs rfl rfl) fun D σ H h => by
  obtain ⟨F, S, st, A, out, R, e, k⟩ := h
  rw [evS] at e
  cases h0 : st.ρ[i]? with
  | none => rw [h0] at e; cases e
  | some o0 =>
    cases o0 with
    | none => rw [h0] at e; cases e
    | some o0 =>
      rw [h0] at e
      dsimp only at e
      obtain ⟨v0, hv0, _⟩ := R.slots i o0 h0
      obtain ⟨⟨o1, s1⟩, h1, e⟩ := bindE e
      obtain ⟨⟨o2, s2⟩, h2, e⟩ := bindE e
      obtain ⟨s3, h3, e⟩ := mapE e
      cases e
      refine one_read R h1 fun v F1 H1 A1 B p1 => ⟨v0, hv0, ?_⟩
      dsimp only at h3
      unfold stAt at h3
      split at h3
      · rename_i xs n y q1 q3
        obtain ⟨j, hj, h3⟩ := mapE h3
        cases h3
        obtain ⟨t1, dv⟩ := p1.dat1 q3
        refine one_read t1.rel h2 fun w F2 H2 A2 B2 p2 => .inl ?_
        obtain ⟨v1, g1, g2⟩ := p2.rel.slots i _ q1
        rw [hv0] at g1
        cases g1
        obtain ⟨a', vs, rfl, hA, g3, g4⟩ := own_lst g2
        obtain rfl := own_int p2.own
        refine ⟨a', vs, n, j, rfl, rfl, g3, by rw [g4.length]; exact hj, ?_⟩
        exact k _ _ _ _ ((t1.trans p2.test).putAt q1 hA hv0 ⟨a', _, rfl, rfl, upd_same, (DenAll.set (dv.mono p2.step.fr) j g4)⟩ rfl (.inl ⟨_, upd_same⟩))
      · rename_i t kvs x' y q1 q3
        obtain ⟨kk, hk', h3⟩ := bindE h3
        split at h3
        · rename_i hz
          cases h3
          obtain ⟨t1, dv⟩ := p1.dat1 q3
          refine one_read t1.rel h2 fun w F2 H2 A2 B2 p2 => .inr ?_
          obtain ⟨v1, g1, g2⟩ := p2.rel.slots i _ q1
          rw [hv0] at g1
          cases g1
          obtain ⟨a', rfl, hA, g3⟩ := own_dct g2
          obtain ⟨_, dk⟩ := own_d p2.own
          obtain ⟨u, g5, g6⟩ := dput_of p2.rel.same g3 hk' hz.1 dk (dv.mono p2.step.fr) hz.2
          refine ⟨a', _, rfl, g5, k _ _ _ _ ((t1.trans p2.test).putAt q1 hA hv0 ⟨a', rfl, rfl, g6⟩ rfl ?_)⟩
          cases t with
          | false => obtain ⟨hk, z, _⟩ := g6; exact .inr (.inl ⟨hk, z⟩)
          | true => obtain ⟨hk, z, _⟩ := g6; exact .inr (.inr ⟨hk, z⟩)
        · cases h3
      · cases h3
theorem s_app {i : Nat} {x : Str} {px apos cpos : Pos} (hi : X.N[i]? = some x) (hv : Vis X.env.scope x) (hd : (x == ("__debug__" : Str)) = false) (hcd : (x == ("__classdict__" : Str)) = false) (ha : PE X a (tE Φ X.K ea)) (hline : (apos.endLine == cpos.line) = true)
    (hs : starEach [a] X.env = (false, eval a X.env) :: starEach [] X.env)
    (hfew : ((backTo cpos (starEach [a] X.env)).all (fun x => !x.1) && (backToKw cpos (keywordEach [] X.env)).all (fun x => x.1.isSome) && decide ([a].length + ([] : List Keyword).length + (if ([] : List Keyword).isEmpty then 0 else 1) < 30)) = true) :
    PS X (.Expr (.Call (.Attribute (.Name x px) "append" apos) [a] [] cpos) pos) (tS Φ X.K (.app i ea)) :=
  PS.imp (ps_expr (pe_bm PySem.F.plainAttrs_list PySem.F.slot_list_append PySem.F.type_list_append mt_append (pe_var hi hv hd hcd) (pa_cons ha pa_nil hs) rfl hfew hline hs rfl) rfl) fun D σ H h => by
  obtain ⟨F, S, st, A, out, R, e, k⟩ := h
  rw [evS] at e
  split at e
  · rename_i xs0 h0
    obtain ⟨v0, hv0, ow0⟩ := R.slots i _ h0
    obtain ⟨a0, vs0, rfl, _, g0, _⟩ := own_lst ow0
    obtain ⟨⟨o1, s1⟩, h1, e⟩ := bindE e
    obtain ⟨s2, h2, e⟩ := mapE e
    cases e
    refine ⟨_, hv0, .inl ⟨rfl, vs0, .of g0⟩, one_read R h1 fun v F1 H1 A1 B p1 => ?_⟩
    unfold appAt at h2
    split at h2
    · rename_i xs y q1 q3
      split at h2
      · rename_i hz
        cases h2
        obtain ⟨t1, dv⟩ := p1.dat1 q3
        obtain ⟨v1, g1, g2⟩ := t1.rel.slots i _ q1
        rw [hv0] at g1
        cases g1
        obtain ⟨a', vs, ea', hA, g3, g4⟩ := own_lst g2
        cases ea'
        refine ⟨a0, vs, v, rfl, rfl, g3, by rw [g4.length]; exact hz, ?_⟩
        exact k _ _ _ _ (t1.putAt q1 hA hv0 ⟨a0, _, rfl, rfl, upd_same, g4.snoc dv⟩ rfl (.inl ⟨_, upd_same⟩))
      · cases h2
    · cases h2
  · cases e

/-! ### for -/
theorem s_forr {tg iter : Expr} {body : List Stmt} {et : Tg} {ei : Vm.It} {eb : Ss} (hp : PassesOwn (model X.prog X.w) X.A X.env X.xe) (hc : X.calm = true) (hi : PI X tg iter (tIt Φ X.K ei)) (hg : PG X tg (gT X.K et)) (hb : PSs X body (tSs Φ X.K eb)) (hs : ∀ x, foldedSetIterable iter X.env x = pure x) :
    PS X (.For tg iter body [] pos) (tS Φ X.K (.forr et ei eb)) := PS.imp (ps_for hp hc hi hg hb hs) fun D σ H h => by
  obtain ⟨F, S, st, A, out, R, e, k⟩ := h
  rw [evS] at e
  obtain ⟨⟨xs, s1⟩, h1, e⟩ := bindE e
  dsimp only at e
  generalize hf : (fun (x : PyData) (s : St) => (asg et x s).bind fun s2 => evSs Φ eb s2) = f at e
  refine ⟨F, S, st, A, xs, s1, R, h1, fun J F1 H1 A1 p dl => ⟨fun i m σc Hc => m = xs.length - i ∧ i ≤ xs.length ∧ ∃ Fc stc Ac, Rel X.K Fc Hc S σc stc Ac ∧ Same F1 Fc ∧ forLoop f (xs.drop i) stc = some out ∧ OutOk X.K Fc Hc S σc Ac D out,
    ⟨xs.length, rfl, Nat.zero_le _, F1, s1, A1, p.rel, Same.refl _, by rw [List.drop_zero]; exact e, k.after p⟩, ?_⟩⟩
  rintro i m σc Hc ⟨rfl, hi', Fc, stc, Ac, Rc, fr, hl, kc⟩
  by_cases hlt : i < xs.length
  · have hx : xs[i]? = some xs[i] := List.getElem?_eq_getElem hlt
    have hdr : xs.drop i = xs[i] :: xs.drop (i + 1) := List.drop_eq_getElem_cons hlt
    obtain ⟨go, yl⟩ := (dl Fc Hc fr Rc.same i).1 _ hx
    rw [hdr, forLoop] at hl
    refine .inr ⟨go, fun σ' H' => ∃ Fc stc Ac, Rel X.K Fc H' S σ' stc Ac ∧ Same F1 Fc ∧ forLoop f (xs.drop (i + 1)) stc = some out ∧ OutOk X.K Fc H' S σ' Ac D out, fun σ' H' n => ⟨xs.length - (i + 1), by omega, rfl, hlt, n⟩, fun x H2 y => ?_⟩
    obtain ⟨F2, gr, dx⟩ := yl x H2 y
    cases hfx : f xs[i] stc with
    | none => rw [hfx] at hl; cases hl
    | some o1 =>
      rw [← hf] at hfx
      obtain ⟨s2, ha, hbd⟩ := bindE hfx
      rw [hf] at hfx
      rw [hfx] at hl
      refine ⟨F2, S, stc, Ac, xs[i], s2, Rc.grow gr, dx, ha, fun σ2 A2 p2 => ⟨F2, S, s2, A2, o1, p2.post.rel, hbd, ?_⟩⟩
      have k2 := (kc.after (PostT.grow Rc gr)).after p2.post
      have fr2 : Same F1 F2 := fr.trans gr.fr
      cases o1 with
      | nx s => exact fun σ' F' H' A' q => ⟨F', s, A', q.rel, fr2.trans q.step.fr, hl, k2.after q⟩
      | cnt s => exact fun σ' F' H' A' q => ⟨F', s, A', q.rel, fr2.trans q.step.fr, hl, k2.after q⟩
      | brk s => cases hl; exact k2
      | ret o s => cases hl; exact k2
  · have e' : i = xs.length := by omega
    subst e'
    rw [List.drop_length, forLoop] at hl
    cases hl
    exact .inl ⟨(dl Fc Hc fr Rc.same _).2 (Nat.le_refl _), kc _ _ _ _ (.here Rc)⟩
end
end Vm


set_option Elab.async false
set_option linter.all false
set_option maxRecDepth 100000
/-! Vm: the law's source of numbers; while. -/
namespace Vm
open PySem PySem.Spec PyProof.Rows L2

/-- the keys of the source's dict are apart -/
theorem k12 : (Str.ofString "cells" : Str) ≠ Str.ofString "left" := by decide +kernel
theorem k13 : (Str.ofString "cells" : Str) ≠ Str.ofString "mixed" := by decide +kernel
theorem k14 : (Str.ofString "cells" : Str) ≠ Str.ofString "turn" := by decide +kernel
theorem k23 : (Str.ofString "left" : Str) ≠ Str.ofString "mixed" := by decide +kernel
theorem k24 : (Str.ofString "left" : Str) ≠ Str.ofString "turn" := by decide +kernel
theorem k34 : (Str.ofString "mixed" : Str) ≠ Str.ofString "turn" := by decide +kernel
def srcL (ca : Addr) (s : Src) : List (Key × V) := [(.inr (Str.ofString "cells"), .ref ca), (.inr (Str.ofString "left"), .int s.left), (.inr (Str.ofString "mixed"), .int s.mixed), (.inr (Str.ofString "turn"), .int s.turn)]
theorem srcL_get {ca : Addr} {s : Src} {k : Str} {v : Int} (e : sget s k = some v) : valV (srcL ca s) (Sum.inr k) = some (.int v) := by
  unfold sget at e
  unfold valV srcL
  split at e
  · rename_i h; cases e; subst h; simp [k12]
  · split at e
    · rename_i h; cases e; subst h; simp [k13, k23]
    · split at e
      · rename_i h; cases e; subst h; simp [k14, k24, k34]
      · cases e
theorem srcL_cells {ca : Addr} {s : Src} : valV (srcL ca s) (Sum.inr (Str.ofString "cells")) = some (.ref ca) := by
  unfold valV srcL
  simp
theorem srcL_put {ca : Addr} {s s' : Src} {k : Str} {v : Int} (e : sput s k v = some s') : putK (srcL ca s) (Sum.inr k) (V.int v) = srcL ca s' ∧ s'.cells = s.cells := by
  unfold sput at e
  unfold L2.putK srcL
  split at e
  · rename_i h; cases e; subst h; simp [k12, k23.symm, k24.symm]
  · split at e
    · rename_i h; cases e; subst h; simp [k13, k23, k34.symm]
    · split at e
      · rename_i h; cases e; subst h; simp [k14, k24, k34]
      · cases e
section
variable {K : PySem.W.Frag} {F H : Hp} {S : List Addr} {σ : L2.St} {A : Nat → List Addr} {st : St} {i : Nat}
/-- where the source stands -/
theorem Rel.source (R : Rel K F H S σ st A) (h : isSrc st i = true) {s : Src} (e : st.src = some s) : ∃ sa ca, S = [sa, ca] ∧ σ[i]? = some (some (.ref sa)) ∧ F sa = none ∧ F ca = none ∧ H sa = some (.dK (srcL ca s)) ∧ H ca = some (.lst (s.cells.map V.int)) := by
  unfold isSrc at h
  split at h
  · rename_i q
    obtain ⟨v, h1, h2⟩ := R.slots i _ q
    obtain ⟨_, sa, ca, e1, rfl⟩ := (show _ = [] ∧ _ from h2)
    have r := R.src
    rw [e] at r
    obtain ⟨sa', ca', e2, f1, f2, g1, g2⟩ := r
    rw [e1] at e2
    cases e2
    exact ⟨sa, ca, e1, h1, f1, f2, g1, g2⟩
  · cases h
/-- one of the source's objects is changed -/
theorem Rel.srcPut (R : Rel K F H S σ st A) {b : Addr} {u : HO} {s' : Src} (hb : b ∈ S) (hF : F b = none) (hs : SrcRel F (upd H b u) S (some s')) : Rel K F (upd H b u) S σ { st with src := some s' } A where
  same := fun c o e => by rw [upd_ne (ne_of_none e hF)]; exact R.same c o e
  slots := fun j o e => by
    obtain ⟨v, h1, h2⟩ := R.slots j o e
    refine ⟨v, h1, h2.keep (Same.refl _) fun c hc w z => ?_⟩
    rw [upd_ne (fun q => (R.out j c hc).2.1 (by rw [q]; exact hb))]
    exact z
  nobor := R.nobor
  nod := R.nod
  dis := R.dis
  out := fun j c hc => by
    obtain ⟨h1, h2, h3⟩ := R.out j c hc
    exact ⟨h1, h2, h3.keep fun o z => by rw [upd_ne (fun q => h2 (by rw [q]; exact hb))]; exact z⟩
  emp := R.emp
  src := hs
  len := R.len
theorem step_S {b : Addr} {u : HO} (hb : b ∈ S) : Step F H (Ow S A) F (upd H b u) (Ow S A) := Step.off Step.refl (.inl hb)
end
section
variable {X : Cx} {Φ : Fs} {a : Expr} {ea : E} {i : Nat} {x : Str} {px pk pos p : Pos} {kk : Nat} {k : Str}
theorem dget_src {H : Hp} {sa ca : Addr} {s : Src} (h : H sa = some (.dK (srcL ca s))) (k : Str) : DGet H sa (.str k) (valV (srcL ca s) (Sum.inr k)) := DGet.k (k := Sum.inr k) h
theorem noSl_const {c : Const} : NoSl (.Constant c kk pk) := fun _ _ => rfl
section
variable (hu : X.A.units + 66 < cLine) (hN : X.N[i]? = some x) (hv : Vis X.env.scope x) (hd : (x == ("__debug__" : Str)) = false) (hcd : (x == ("__classdict__" : Str)) = false)
include hu hN hv hd hcd
theorem e_sg : PE X (.Subscript (.Name x px) (.Constant (.str k) kk pk) pos) (tE Φ X.K (.sg i k)) := PE.imp (pe_dget (by omega) (pe_var hN hv hd hcd) pe_str noSl_const) fun σ H Q h => by
  obtain ⟨F, S, st, A, o, st', R, e, kQ⟩ := h
  rw [evE] at e
  split at e
  · rename_i hs
    obtain ⟨s, h1, e⟩ := bindE e
    obtain ⟨v, h2, e⟩ := mapE e
    cases e
    obtain ⟨sa, ca, eS, hσ, f1, f2, g1, g2⟩ := R.source hs h1
    have g := dget_src g1 k
    rw [srcL_get h2] at g
    exact ⟨_, hσ, sa, _, rfl, g, kQ _ _ _ _ _ (leaf R (.int v))⟩
  · cases e
theorem e_sl {y : Str} {py : Pos} (hg : Gl X y) (hm : X.mg y = none) (hv' : bootBuiltins y = some (.builtin "len")) (hn : y ≠ "__name__") (hdb : (y == ("__debug__" : Str)) = false) :
    PE X (.Call (.Name y py) [.Subscript (.Name x px) (.Constant (.str (Str.ofString "cells")) kk pk) pos] [] p) (tE Φ X.K (.sl i)) :=
  PE.imp (pe_callB call_len_seq hg hm hv' (pa_cons (pe_dget (by omega) (pe_var hN hv hd hcd) pe_str noSl_const) pa_nil rfl) hn hdb rfl rfl) fun σ H Q h => by
  obtain ⟨F, S, st, A, o, st', R, e, k⟩ := h
  rw [evE] at e
  split at e
  · rename_i hs
    obtain ⟨s, h1, e⟩ := mapE e
    cases e
    obtain ⟨sa, ca, eS, hσ, f1, f2, g1, g2⟩ := R.source hs h1
    have g := dget_src g1 (Str.ofString "cells")
    rw [srcL_cells] at g
    refine ⟨_, hσ, sa, _, rfl, g, ca, _, rfl, .inl (.of g2), ?_⟩
    rw [List.length_map]
    exact k _ _ _ _ _ (leaf R (.int _))
  · cases e
theorem e_sp {apos : Pos} (hline : (apos.endLine == p.line) = true) :
    PE X (.Call (.Attribute (.Subscript (.Name x px) (.Constant (.str (Str.ofString "cells")) kk pk) pos) "pop" apos) [] [] p) (tE Φ X.K (.sp i)) :=
  PE.imp (pe_bm0 PySem.F.plainAttrs_list PySem.F.slot_list_pop PySem.F.type_list_pop mt_pop (pe_dget (by omega) (pe_var hN hv hd hcd) pe_str noSl_const) rfl hline) fun σ H Q h => by
  obtain ⟨F, S, st, A, o, st', R, e, k⟩ := h
  rw [evE] at e
  split at e
  · rename_i hs
    obtain ⟨s, h1, e⟩ := bindE e
    obtain ⟨v, h2, e⟩ := mapE e
    cases e
    obtain ⟨sa, ca, eS, hσ, f1, f2, g1, g2⟩ := R.source hs h1
    have g := dget_src g1 (Str.ofString "cells")
    rw [srcL_cells] at g
    refine ⟨_, hσ, sa, _, rfl, g, .inl ⟨rfl, _, .of g2⟩, ca, _, .int v, rfl, rfl, g2, ?_, ?_⟩
    · rw [List.length_map, List.getElem?_map, h2]
      rfl
    · have ne : sa ≠ ca := fun z => by rw [z, g2] at g1; cases g1
      have hb : ca ∈ S := by rw [eS]; simp
      have R' : Rel X.K F (upd H ca (.lst (s.cells.map V.int).dropLast)) S σ { st with src := some { s with cells := s.cells.dropLast } } A :=
        R.srcPut hb f2 ⟨sa, ca, eS, f1, f2, by rw [upd_ne ne]; exact g1, by rw [upd_same, List.map_dropLast]⟩
      exact k _ _ _ _ [] ⟨(step_S (F := F) (A := A) hb).weak fun b h => h.elim id (fun z => nomatch z), R', ⟨rfl, .int v⟩, List.nodup_nil, fun _ z => nomatch z⟩
  · cases e
theorem s_sw {pt : Pos} (ha : PE X a (tE Φ X.K ea)) (hs : swapsWithSole [.Subscript (.Name x px) (.Constant (.str k) kk pk) pt] a pos.line X.env = pure false) :
    PS X (.Assign [.Subscript (.Name x px) (.Constant (.str k) kk pk) pt] a pos) (tS Φ X.K (.sw i k ea)) := PS.imp (ps_asg ha (pg_sub (pe_var hN hv hd hcd) pe_str (set_dict (by omega))) hs rfl rfl) fun D σ H h => by
  obtain ⟨F, S, st, A, out, R, e, kQ⟩ := h
  rw [evS] at e
  split at e
  · rename_i hsr
    obtain ⟨⟨o1, s1⟩, h1, e⟩ := bindE e
    dsimp only at e
    split at e
    · obtain ⟨s, h2, e⟩ := bindE e
      obtain ⟨s', h3, e⟩ := mapE e
      cases e
      have hv0 : ∃ v, σ[i]? = some (some v) ∧ ∃ sa ca, S = [sa, ca] ∧ v = .ref sa := by
        unfold isSrc at hsr
        split at hsr
        · rename_i q
          obtain ⟨v, g1, g2⟩ := R.slots i _ q
          obtain ⟨_, sa, ca, e1, e2⟩ := (show _ = [] ∧ _ from g2)
          exact ⟨v, g1, sa, ca, e1, e2⟩
        · cases hsr
      obtain ⟨v0, hσ, sa, ca, eS, rfl⟩ := hv0
      refine one_read R h1 fun v F1 H1 A1 B q => ⟨_, hσ, ?_⟩
      obtain rfl := own_int q.own
      have t := q.test
      have r := t.rel.src
      rw [h2] at r
      obtain ⟨sa', ca', e2, f1, f2, g1, g2⟩ := r
      rw [eS] at e2
      cases e2
      obtain ⟨p1, p2⟩ := srcL_put (ca := ca) h3
      have g1' : H1 sa = some (.dK (srcL ca s)) := g1
      refine ⟨sa, upd H1 sa (.dK (srcL ca s')), rfl, ?_, ?_⟩
      · rw [← p1]
        exact DPut.k (k := Sum.inr k) g1' (by rw [sizeLine_eq]; exact (by decide : (4 : Nat) < 16777216))
      · have ne : ca ≠ sa := fun z => by rw [z] at g2; rw [g1'] at g2; cases g2
        have hb : sa ∈ S := by rw [eS]; simp
        have R' : Rel X.K F1 (upd H1 sa (.dK (srcL ca s'))) S σ { s1 with src := some s' } A1 := t.rel.srcPut hb f1 ⟨sa, ca, eS, f1, f2, upd_same, by rw [upd_ne ne, p2]; exact g2⟩
        exact kQ _ _ _ _ ⟨t.step.trans (step_S hb), R'⟩
    · cases e
  · cases e
end
/-! ### while -/
theorem s_whl {c : Expr} {body : List Stmt} {t : T} {eb : Ss} {fuel : Nat} (hp : PassesOwn (model X.prog X.w) X.A X.env X.xe) (hc : PT X c (tT Φ X.K t)) (hb : PSs X body (tSs Φ X.K eb)) : PS X (.While c body [] pos) (tS Φ X.K (.whl fuel t eb)) := PS.imp (ps_while hp hc hb) fun D σ H h => by
  obtain ⟨F, S, st, A, out, R, e, k⟩ := h
  rw [evS] at e
  refine ⟨fun m σc Hc => ∃ Fc stc Ac, Rel X.K Fc Hc S σc stc Ac ∧ whlLoop (evT Φ t) (evSs Φ eb) m stc = some out ∧ OutOk X.K Fc Hc S σc Ac D out, ⟨fuel, F, st, A, R, e, k⟩, ?_⟩
  rintro m σc Hc ⟨Fc, stc, Ac, Rc, hl, kc⟩
  cases m with
  | zero => rw [whlLoop] at hl; cases hl
  | succ m =>
    rw [whlLoop] at hl
    cases h1 : evT Φ t stc with
    | none => rw [h1] at hl; cases hl
    | some r =>
      obtain ⟨b, s1⟩ := r
      rw [h1] at hl
      refine ⟨Fc, S, stc, Ac, b, s1, Rc, h1, fun F1 H1 A1 p1 => ?_⟩
      have k1 := kc.after p1
      cases b with
      | false =>
        dsimp only at hl
        cases hl
        show (if false = true then _ else _)
        rw [if_neg Bool.false_ne_true]
        exact k1 _ _ _ _ (.here p1.rel)
      | true =>
        dsimp only at hl
        show (if true = true then _ else _)
        rw [if_pos rfl]
        refine ⟨fun σ' H' => ∃ Fc stc Ac, Rel X.K Fc H' S σ' stc Ac ∧ whlLoop (evT Φ t) (evSs Φ eb) m stc = some out ∧ OutOk X.K Fc H' S σ' Ac D out, fun σ' H' n => ⟨m, Nat.lt_succ_self _, n⟩, ?_⟩
        cases h2 : evSs Φ eb s1 with
        | none => rw [h2] at hl; cases hl
        | some o1 =>
          rw [h2] at hl
          refine ⟨F1, S, s1, A1, o1, p1.rel, h2, ?_⟩
          cases o1 with
          | nx s => exact fun σ' F' H' A' q => ⟨F', s, A', q.rel, hl, k1.after q⟩
          | cnt s => exact fun σ' F' H' A' q => ⟨F', s, A', q.rel, hl, k1.after q⟩
          | brk s => cases hl; exact k1
          | ret o s => cases hl; exact k1
end
end Vm


set_option Elab.async false
set_option linter.all false
set_option maxRecDepth 100000
/-! Vm, part 19: a look at the text: does it say what the terms say; the soundness of the evaluator. -/
namespace Vm
open PySem PySem.Spec PyProof.Rows L2

structure Ctx where
  N : List Str
  sc : Scope
  fn : Str → Bool
  rp : Bool

def plainE : Expr → Bool
  | .Constant .. => true
  | .Name .. => true
  | .BinOp .. => true
  | .UnaryOp .. => true
  | .BoolOp .. => true
  | .Compare .. => true
  | .IfExp .. => true
  | .Tuple .. => true
  | .List .. => true
  | .Subscript .. => true
  | .ListComp .. => true
  | .Call .. => true
  | .Dict .. => true
  | _ => false
def noLc : Expr → Bool
  | .ListComp .. => false
  | _ => true
def plainT : Expr → Bool
  | .UnaryOp .. => false
  | .BoolOp .. => false
  | .Compare .. => false
  | .IfExp .. => false
  | _ => true
def isBool : Expr → Bool
  | .BoolOp .. => true
  | _ => false
section
variable {a : Expr} {as : List Expr} {env : Env}
theorem star_of (h : plainE a = true) : starEach (a :: as) env = (false, eval a env) :: starEach as env := by cases a <;> first | rfl | cases h
theorem ix_of (h : plainE a = true) : PlainIx a := by
  intro o i
  cases a <;> first | rfl | cases h
theorem fold_of (h : plainE a = true) : ∀ x, foldedSetIterable a env x = pure x := by
  intro x
  cases a <;> first | rfl | cases h
theorem behind_of {op : CmpOp} (h : plainE a = true) : behindInMarks op a = false := by cases a <;> first | rfl | cases h
theorem swap_of {t : Option Expr} {l : Nat} (h : plainE a = true) (h' : noLc a = true) : swapsWith a t l env = pure false := by cases a <;> first | rfl | exact nomatch (show false = true from h) | exact nomatch (show false = true from h')
theorem true_of (h : plainE a = true) (h' : plainT a = true) : ∀ whole, isTrue a env whole = (do let v ← whole; standAt a.pos; holding [v] (truthy v)) := by
  intro whole
  cases a <;> first | rfl | exact nomatch (show false = true from h) | exact nomatch (show false = true from h')
end

def nmOk (c : Ctx) (i : Nat) (x : Str) : Bool := decide (c.N[i]? = some x) && (match c.sc.names.lookup x with
  | some .local => true
  | some .cell => true
  | some .free => true
  | _ => false) && !(x == ("__debug__" : Str)) && !(x == ("__classdict__" : Str))
def locOk (c : Ctx) (i : Nat) (x : Str) : Bool := decide (c.N[i]? = some x) && (match c.sc.names.lookup x with
  | some .local => true
  | some .cell => c.fn x
  | _ => false)
def plocOk (c : Ctx) (i : Nat) (x : Str) : Bool := decide (c.N[i]? = some x) && decide (c.sc.names.lookup x = some .local)
def glOk (c : Ctx) (x : Str) : Bool := decide (c.sc.names.lookup x = some .globalImplicit) && !(x == ("__debug__" : Str)) && decide (x ≠ "__name__")
/-- the names of built-ins that the checks know -/
def bNames : List Str := ["len", "abs", "int", "bool", "str", "list", "tuple", "dict", "all", "any", "sum", "max", "min", "sorted", "repr", "isinstance", "range", "enumerate", "zip"]
inductive PK1 where
  | b (s : String) | t (s : String)
def primOf : Prim → Option PK1
  | .len => some (.b "len")
  | .abs => some (.b "abs")
  | .int => some (.t "int")
  | .all => some (.b "all")
  | .any => some (.b "any")
  | .sum => some (.b "sum")
  | .max => some (.b "max")
  | .min => some (.b "min")
  | .max2 => some (.b "max")
  | .min2 => some (.b "min")
  | .tuple => some (.t "tuple")
  | .list => some (.t "list")
  | .sorted => some (.b "sorted")
  | .repr => some (.b "repr")
  | .isi _ => none
def tyNames : List String := ["int", "bool", "str", "list", "tuple", "dict"]

mutual
def chkE (c : Ctx) : E → Expr → Bool
  | .int i, x => match x with
    | .Constant (.int j) _ _ => decide (i = j)
    | _ => false
  | .bl b, x => match x with
    | .Constant (.bool d) _ _ => decide (b = d)
    | _ => false
  | .non, x => match x with
    | .Constant .none _ _ => true
    | _ => false
  | .str s, x => match x with
    | .Constant (.str t) _ _ => decide (s = t)
    | _ => false
  | .var i, x => match x with
    | .Name y _ => nmOk c i y
    | _ => false
  | .bor i, x => match x with
    | .Name y _ => nmOk c i y
    | _ => false
  | .mov i, x => match x with
    | .Name y _ => nmOk c i y
    | _ => false
  | .bin op a b, x => match x with
    | .BinOp l o r _ => decide (o = op.op) && chkE c a l && chkE c b r
    | _ => false
  | .neg a, x => match x with
    | .UnaryOp .USub y _ => chkE c a y
    | _ => false
  | .cmp op a b, x => match x with
    | .Compare l [o] [r] _ => decide (o = op.op) && plainE r && chkE c a l && chkE c b r
    | _ => false
  | .chain .., _ => false
  | .not t, x => match x with
    | .UnaryOp .Not y _ => chkV c t y
    | _ => false
  | .and a b, x => match x with
    | .BoolOp .And (l :: r :: rest) p => chkE c a l && (match rest with
      | [] => chkE c b r
      | _ => chkE c b (.BoolOp .And (r :: rest) p))
    | _ => false
  | .or a b, x => match x with
    | .BoolOp .Or (l :: r :: rest) p => chkE c a l && (match rest with
      | [] => chkE c b r
      | _ => chkE c b (.BoolOp .Or (r :: rest) p))
    | _ => false
  | .ife t a b, x => match x with
    | .IfExp y l r _ => chkT c t y && chkE c a l && chkE c b r
    | _ => false
  | .tup es, x => match x with
    | .Tuple xs _ _ => chkEs c es xs
    | _ => false
  | .lst es, x => match x with
    | .List xs _ => chkEs c es xs
    | _ => false
  | .idx a i, x => match x with
    | .Subscript l r _ => plainE r && chkE c a l && chkE c i r
    | _ => false
  | .slc a lo hi, x => match x with
    | .Subscript l (.Slice u v none _) _ => chkE c a l && chkOe c lo u && chkOe c hi v
    | _ => false
  | .rev a, x => match x with
    | .Subscript l (.Slice none none (some (.UnaryOp .USub (.Constant (.int 1) _ _) _)) _) _ => chkE c a l
    | _ => false
  | .fn p es, x => match x with
    | .Call (.Name y _) (a :: as) [] _ => (match primOf p with
      | some (.b s) => decide (y = Str.ofString s) && glOk c y && decide (y ∈ bNames) && (c.rp || !decide (p = .repr)) && chkEs c es (a :: as)
      | some (.t s) => decide (y = Str.ofString s) && glOk c y && decide (y ∈ bNames) && chkEs c es (a :: as)
      | none => (match p, es, as with
        | .isi T, .cons e .nil, [.Name z _] => decide (y = Str.ofString "isinstance") && glOk c y && decide (z = Str.ofString T) && glOk c z && decide (z ∈ bNames) && decide (T ∈ tyNames) && plainE a && chkE c e a
        | _, _, _ => false))
    | _ => false
  | .mt m a es, x => match x with
    | .Call (.Attribute (.Name y py) g ap) [u, v] [] cp => (match m, es with
      | .get2, .cons e (.cons e' .nil) => decide (g = Str.ofString "get") && decide (ap.endLine = cp.line) && plainE u && plainE v && chkE c a (.Name y py) && chkE c e u && chkE c e' v
      | _, _ => false)
    | _ => false
  | .pop _, _ => false
  | .popi _ _, _ => false
  | .call f es, x => match x with
    | .Call (.Name y _) (a :: as) [] _ => decide (y = f) && glOk c y && chkEs c es (a :: as)
    | _ => false
  | .calls f es, x => match x with
    | .Call (.Name y _) (a :: as) [] _ => decide (y = f) && glOk c y && chkEs c es (a :: as)
    | _ => false
  | .lc m e tg it oc own, x => match x with
    | .ListComp elt [⟨t, i, ifs, 0⟩] scope _ => !m && blkC c.N c.sc scope (own.map fun j => ((c.N[j]?).getD "", j)) && decide (scope.kind = .function) && plainE i && (tgN tg).all (fun j => decide (j ∈ own)) &&
        chkIt c it t i && chkTg { c with sc := relS scope c.sc, fn := fun x => scope.names.lookup x == some .cell } tg t &&
        chkOc { c with sc := relS scope c.sc, fn := fun x => scope.names.lookup x == some .cell } oc ifs && chkE { c with sc := relS scope c.sc, fn := fun x => scope.names.lookup x == some .cell } e elt
    | _ => false
  | .rng .., _ => false
  | .rng0 .., _ => false
  | .dnew _, x => match x with
    | .Dict [] [] _ => true
    | _ => false
  | .dof t e, x => match x with
    | .Call (.Name y _) [a] [] _ => t && decide (y = Str.ofString "dict") && glOk c y && plainE a && chkE c e a
    | _ => false
  | .sg i k, x => match x with
    | .Subscript (.Name y _) (.Constant (.str t) _ _) _ => nmOk c i y && decide (t = k)
    | _ => false
  | .sl i, x => match x with
    | .Call (.Name l _) [.Subscript (.Name y _) (.Constant (.str t) _ _) _] [] _ => decide (l = Str.ofString "len") && glOk c l && nmOk c i y && decide (t = Str.ofString "cells")
    | _ => false
  | .sp i, x => match x with
    | .Call (.Attribute (.Subscript (.Name y _) (.Constant (.str t) _ _) _) g ap) [] [] p => decide (g = Str.ofString "pop") && nmOk c i y && decide (t = Str.ofString "cells") && decide (ap.endLine = p.line)
    | _ => false
def chkEs (c : Ctx) : Es → List Expr → Bool
  | .nil, x => match x with
    | [] => true
    | _ => false
  | .cons e es, x => match x with
    | a :: as => plainE a && chkE c e a && chkEs c es as
    | _ => false
def chkOe (c : Ctx) : Oe → Option Expr → Bool
  | .no, x => match x with
    | none => true
    | _ => false
  | .yes e, x => match x with
    | some a => chkE c e a
    | _ => false
def chkOc (c : Ctx) : Oc → List Expr → Bool
  | .no, x => match x with
    | [] => true
    | _ => false
  | .yes t, x => match x with
    | [a] => chkT c t a
    | _ => false
def chkV (c : Ctx) : T → Expr → Bool
  | .v e, x => chkE c e x
  | .and .., _ => false
  | .or .., _ => false
  | .not .., _ => false
def chkT (c : Ctx) : T → Expr → Bool
  | .v e, x => match e with
    | .cmp op a b => (match x with
      | .Compare l [o] [r] _ => decide (o = op.op) && plainE r && chkE c a l && chkE c b r
      | _ => false)
    | e => plainE x && plainT x && chkE c e x
  | .not t, x => match x with
    | .UnaryOp .Not y _ => chkT c t y
    | _ => false
  | .and a b, x => match x with
    | .BoolOp .And (l :: r :: rest) p => chkT c a l && (match rest with
      | [] => chkT c b r
      | _ => chkT c b (.BoolOp .And (r :: rest) p))
    | _ => false
  | .or a b, x => match x with
    | .BoolOp .Or (l :: r :: rest) p => chkT c a l && (match rest with
      | [] => chkT c b r
      | _ => chkT c b (.BoolOp .Or (r :: rest) p))
    | _ => false
def chkIt (c : Ctx) : Vm.It → Expr → Expr → Bool
  | .seq e, _, x => chkE c e x
  | .rng1 e, _, x => match x with
    | .Call (.Name y _) [a] [] _ => decide (y = Str.ofString "range") && glOk c y && plainE a && chkE c e a
    | _ => false
  | .rng2 e e', _, x => match x with
    | .Call (.Name y _) [a, b] [] _ => decide (y = Str.ofString "range") && glOk c y && plainE a && plainE b && chkE c e a && chkE c e' b
    | _ => false
  | .rng3 .., _, _ => false
  | .enum _, _, _ => false
  | .zip e e', t, x => match t, x with
    | .Tuple _ _ _, .Call (.Name y _) [a, b] [] _ => decide (y = Str.ofString "zip") && glOk c y && plainE a && plainE b && chkE c e a && chkE c e' b
    | _, _ => false
  | .zips e e', t, x => match t, x with
    | .Tuple _ _ _, .Call (.Name y _) [a, b] [⟨some k, .Constant (.bool true) _ _, _⟩] _ => decide (k = Str.ofString "strict") && decide (y = Str.ofString "zip") && glOk c y && plainE a && plainE b && chkE c e a && chkE c e' b
    | _, _ => false
def chkTg (c : Ctx) : Tg → Expr → Bool
  | .nm i, x => match x with
    | .Name y _ => locOk c i y
    | _ => false
  | .tp ts, x => match x with
    | .Tuple xs _ _ => chkTgs c ts xs
    | _ => false
def chkTgs (c : Ctx) : Tgs → List Expr → Bool
  | .nil, x => match x with
    | [] => true
    | _ => false
  | .cons t ts, x => match x with
    | a :: as => chkTg c t a && chkTgs c ts as
    | _ => false
end
end Vm


set_option Elab.async false
set_option linter.all false
set_option maxRecDepth 100000
set_option maxHeartbeats 4000000
/-! Vm, part 20: what is checked is what is computed: expressions. -/
namespace Vm
open PySem PySem.Spec PyProof.Rows L2

structure CtxOk (Φ : Fs) (X : Cx) (c : Ctx) (j : Nat) : Prop where
  N : X.N = c.N
  nd : c.N.Nodup
  sc : X.env.scope = c.sc
  kind : c.sc.kind = .function
  fn : ∀ x, c.fn x = true → X.fn x = true
  calm : X.calm = true
  xe : X.xe = fun _ _ => False
  room : Room j X.A
  blt : ∀ x ∈ bNames, X.mg x = none
  rp : c.rp = true → X.A.guards = some []
  pf : ∀ f n φ, Φ.p f = some (n, φ) → ∃ k, k ≤ j ∧ C8.Cal X.prog X.w X.K X.mg X.base k f (spP X.K n φ) []
  sf : ∀ f n φ, Φ.s f = some (n, φ) → ∃ k, k ≤ j ∧ C8.Cal X.prog X.w X.K X.mg X.base k f (spS X.K n φ) []

section
variable {Φ : Fs} {X : Cx} {c : Ctx} {j : Nat}
theorem CtxOk.u66 (ok : CtxOk Φ X c j) : X.A.units + 66 < cLine := by have := ok.room.un; omega
theorem nm_of (ok : CtxOk Φ X c j) {i : Nat} {x : Str} (h : nmOk c i x = true) : X.N[i]? = some x ∧ Vis X.env.scope x ∧ (x == ("__debug__" : Str)) = false ∧ (x == ("__classdict__" : Str)) = false := by
  unfold nmOk at h
  simp only [Bool.and_eq_true, decide_eq_true_eq, Bool.not_eq_true'] at h
  obtain ⟨⟨⟨h1, h2⟩, h3⟩, h4⟩ := h
  refine ⟨by rw [ok.N]; exact h1, ?_, h3, h4⟩
  rw [ok.sc]
  unfold Vis
  split at h2
  · exact .inl (by assumption)
  · exact .inr (.inl (by assumption))
  · exact .inr (.inr (by assumption))
  · cases h2
theorem loc_of (ok : CtxOk Φ X c j) {i : Nat} {x : Str} (h : locOk c i x = true) : X.N[i]? = some x ∧ L2.Loc X.env.scope x ∧ (X.fn x = true ∨ X.env.scope.names.lookup x = some .local) := by
  unfold locOk at h
  simp only [Bool.and_eq_true, decide_eq_true_eq] at h
  obtain ⟨h1, h2⟩ := h
  rw [ok.sc]
  refine ⟨by rw [ok.N]; exact h1, ?_⟩
  unfold L2.Loc
  split at h2
  · exact ⟨.inl (by assumption), .inr (by assumption)⟩
  · exact ⟨.inr (by assumption), .inl (ok.fn _ h2)⟩
  · cases h2
theorem gl_of (ok : CtxOk Φ X c j) {x : Str} (h : glOk c x = true) : Gl X x ∧ (x == ("__debug__" : Str)) = false ∧ x ≠ "__name__" := by
  unfold glOk at h
  simp only [Bool.and_eq_true, decide_eq_true_eq, Bool.not_eq_true'] at h
  obtain ⟨⟨h1, h2⟩, h3⟩ := h
  refine ⟨?_, h2, h3⟩
  show X.env.scope.names.lookup x = some .globalImplicit
  rw [ok.sc]
  exact h1
theorem nd_of (ok : CtxOk Φ X c j) : X.N.Nodup := by rw [ok.N]; exact ok.nd
/-- a comprehension's block -/
theorem blk_of (ok : CtxOk Φ X c j) {scope : Scope} (hk : scope.kind = .function) (s : Shared) (H : Hp) (C : Addr) (cl : List (Str × Addr)) (fp : List Addr) :
    CtxOk Φ (X.blk s H scope (compEnvC scope cl C X.env) fp) { c with sc := relS scope c.sc, fn := fun x => scope.names.lookup x == some .cell } j where
  N := ok.N
  nd := ok.nd
  sc := by
    show relS scope X.env.scope = relS scope c.sc
    rw [ok.sc]
  kind := hk
  fn := fun x h => h
  calm := ok.calm
  xe := rfl
  room := ok.room
  blt := ok.blt
  rp := ok.rp
  pf := ok.pf
  sf := ok.sf

theorem prim_b (ok : CtxOk Φ X c j) {p : Prim} {s : String} (h : primOf p = some (.b s)) (hr : (c.rp || !decide (p = .repr)) = true) : CallR X (.builtin s) (rP X.K p) ∧ bootBuiltins (Str.ofString s) = some (.builtin s) := by
  have hc := ok.calm
  have hu := ok.u66
  cases p <;> cases h
  · exact ⟨len_ok, by decide +kernel⟩
  · exact ⟨abs_ok, by decide +kernel⟩
  · exact ⟨all_ok hc, boot_all⟩
  · exact ⟨any_ok hc, boot_any⟩
  · exact ⟨sum_ok hc, boot_sum⟩
  · exact ⟨max_ok hc, boot_max⟩
  · exact ⟨min_ok hc, boot_min⟩
  · exact ⟨max2_ok hc, boot_max⟩
  · exact ⟨min2_ok hc, boot_min⟩
  · exact ⟨sorted_ok hc hu, boot_sorted⟩
  · refine ⟨repr_ok (ok.rp ?_) hu, boot_repr⟩
    simpa using hr
theorem prim_t (ok : CtxOk Φ X c j) {p : Prim} {s : String} (h : primOf p = some (.t s)) : CallR X (.type s) (rP X.K p) ∧ bootBuiltins (Str.ofString s) = some (.type s) := by
  cases p <;> cases h
  · exact ⟨int_ok, boot_int⟩
  · exact ⟨tuple_ok, boot_tuple⟩
  · exact ⟨list_ok, boot_list⟩
theorem ty_boot {T : String} (h : T ∈ tyNames) : bootBuiltins (Str.ofString T) = some (.type T) := by
  simp only [tyNames, List.mem_cons, List.not_mem_nil, or_false] at h
  rcases h with h | h | h | h | h | h <;> subst h
  · exact boot_int
  · exact boot_bool
  · exact boot_str
  · exact boot_list
  · exact boot_tuple
  · exact boot_dict
end

/-! ### targets -/
section
variable {Φ : Fs}
mutual
theorem sndTg : ∀ (t : Tg) {X : Cx} {c : Ctx} {j : Nat} {x : Expr}, CtxOk Φ X c j → chkTg c t x = true → PG X x (gT X.K t)
  | .nm i, X, c, j, x, ok, h => by
    rw [chkTg.eq_def] at h; dsimp only at h
    split at h
    · obtain ⟨h1, h2, h3⟩ := loc_of ok h
      exact g_nm (nd_of ok) h1 h2 h3
    · cases h
  | .tp ts, X, c, j, x, ok, h => by
    rw [chkTg.eq_def] at h; dsimp only at h
    split at h
    · obtain ⟨h1, h2, h3, h4⟩ := sndTgs ts ok h
      exact g_tp ok.calm h1 h2 h3
    · cases h
theorem sndTgs : ∀ (ts : Tgs) {X : Cx} {c : Ctx} {j : Nat} {xs : List Expr}, CtxOk Φ X c j → chkTgs c ts xs = true →
    PGs X xs (gTs X.K ts) ∧ (assignEach xs X.env).length = tgsL ts ∧ (assignEach xs X.env).findIdx? (·.1) = none ∧ True
  | .nil, X, c, j, xs, ok, h => by
    rw [chkTgs.eq_def] at h; dsimp only at h
    split at h
    · exact ⟨gs_nil, rfl, rfl, trivial⟩
    · cases h
  | .cons t ts, X, c, j, xs, ok, h => by
    rw [chkTgs.eq_def] at h; dsimp only at h
    split at h
    · rename_i a as
      rw [Bool.and_eq_true] at h
      obtain ⟨h1, h2, h3, _⟩ := sndTgs ts ok h.2
      have g := sndTg t ok h.1
      have pl : assignEach (a :: as) X.env = (false, assign a X.env) :: assignEach as X.env := by
        cases t with
        | nm i =>
          have h' := h.1
          rw [chkTg.eq_def] at h'; dsimp only at h'
          split at h'
          · rfl
          · cases h'
        | tp ts =>
          have h' := h.1
          rw [chkTg.eq_def] at h'; dsimp only at h'
          split at h'
          · rfl
          · cases h'
      refine ⟨gs_cons g h1 (by rw [pl]; rfl), ?_, ?_, trivial⟩
      · rw [pl, List.length_cons, h2]; rfl
      · rw [pl, List.findIdx?_cons, h3]
        rfl
    · cases h
end
end

/-! ### expressions -/
section
variable {Φ : Fs}
mutual
theorem sndE : ∀ (e : E) {X : Cx} {c : Ctx} {j : Nat} {x : Expr}, CtxOk Φ X c j → chkE c e x = true → PE X x (tE Φ X.K e)
  | .int i, X, c, j, x, ok, h => by
    rw [chkE.eq_def] at h; dsimp only at h
    split at h
    · obtain rfl := of_decide_eq_true h; exact e_int
    · cases h
  | .bl i, X, c, j, x, ok, h => by
    rw [chkE.eq_def] at h; dsimp only at h
    split at h
    · obtain rfl := of_decide_eq_true h; exact e_bl
    · cases h
  | .non, X, c, j, x, ok, h => by
    rw [chkE.eq_def] at h; dsimp only at h
    split at h
    · exact e_non
    · cases h
  | .str i, X, c, j, x, ok, h => by
    rw [chkE.eq_def] at h; dsimp only at h
    split at h
    · obtain rfl := of_decide_eq_true h; exact e_str
    · cases h
  | .var i, X, c, j, x, ok, h => by
    rw [chkE.eq_def] at h; dsimp only at h
    split at h
    · obtain ⟨h1, h2, h3, h4⟩ := nm_of ok h; exact e_var h1 h2 h3 h4
    · cases h
  | .bor i, X, c, j, x, ok, h => by
    rw [chkE.eq_def] at h; dsimp only at h
    split at h
    · obtain ⟨h1, h2, h3, h4⟩ := nm_of ok h; exact e_bor h1 h2 h3 h4
    · cases h
  | .mov i, X, c, j, x, ok, h => by
    rw [chkE.eq_def] at h; dsimp only at h
    split at h
    · obtain ⟨h1, h2, h3, h4⟩ := nm_of ok h; exact e_mov h1 h2 h3 h4
    · cases h
  | .bin op a b, X, c, j, x, ok, h => by
    rw [chkE.eq_def] at h; dsimp only at h
    split at h
    · simp only [Bool.and_eq_true, decide_eq_true_eq] at h
      obtain ⟨⟨rfl, h2⟩, h3⟩ := h
      exact e_bin op (sndE a ok h2) (sndE b ok h3)
    · cases h
  | .neg a, X, c, j, x, ok, h => by
    rw [chkE.eq_def] at h; dsimp only at h
    split at h
    · exact e_neg (sndE a ok h)
    · cases h
  | .cmp op a b, X, c, j, x, ok, h => by
    rw [chkE.eq_def] at h; dsimp only at h
    split at h
    · simp only [Bool.and_eq_true, decide_eq_true_eq] at h
      obtain ⟨⟨⟨rfl, h1⟩, h2⟩, h3⟩ := h
      exact e_cmp ok.u66 op (sndE a ok h2) (sndE b ok h3) (behind_of h1)
    · cases h
  | .chain .., X, c, j, x, ok, h => by
    rw [chkE.eq_def] at h; dsimp only at h
    cases h
  | .not t, X, c, j, x, ok, h => by
    rw [chkE.eq_def] at h; dsimp only at h
    split at h
    · cases t with
      | v a => rw [chkV.eq_def] at h; dsimp only at h; exact e_not (sndE a ok h)
      | and a b => rw [chkV.eq_def] at h; dsimp only at h; cases h
      | or a b => rw [chkV.eq_def] at h; dsimp only at h; cases h
      | not a => rw [chkV.eq_def] at h; dsimp only at h; cases h
    · cases h
  | .and a b, X, c, j, x, ok, h => by
    rw [chkE.eq_def] at h; dsimp only at h
    split at h
    · rw [Bool.and_eq_true] at h
      obtain ⟨h1, h2⟩ := h
      refine e_and (sndE a ok h1) ?_
      split at h2
      · exact L2.pe_one (sndE b ok h2)
      · exact sndE b ok h2
    · cases h
  | .or a b, X, c, j, x, ok, h => by
    rw [chkE.eq_def] at h; dsimp only at h
    split at h
    · rw [Bool.and_eq_true] at h
      obtain ⟨h1, h2⟩ := h
      refine e_or (sndE a ok h1) ?_
      split at h2
      · exact L2.pe_one (sndE b ok h2)
      · exact sndE b ok h2
    · cases h
  | .ife t a b, X, c, j, x, ok, h => by
    rw [chkE.eq_def] at h; dsimp only at h
    split at h
    · simp only [Bool.and_eq_true] at h
      obtain ⟨⟨h1, h2⟩, h3⟩ := h
      exact e_ife (sndT t ok h1).1 (sndE a ok h2) (sndE b ok h3)
    · cases h
  | .tup es, X, c, j, x, ok, h => by
    rw [chkE.eq_def] at h; dsimp only at h
    split at h
    · exact e_tup (sndEs es ok h)
    · cases h
  | .lst es, X, c, j, x, ok, h => by
    rw [chkE.eq_def] at h; dsimp only at h
    split at h
    · exact e_lst (sndEs es ok h)
    · cases h
  | .idx a i, X, c, j, x, ok, h => by
    rw [chkE.eq_def] at h; dsimp only at h
    split at h
    · simp only [Bool.and_eq_true] at h
      obtain ⟨⟨h1, h2⟩, h3⟩ := h
      exact e_idx ok.u66 (sndE a ok h2) (sndE i ok h3) (ix_of h1)
    · cases h
  | .slc a lo hi, X, c, j, x, ok, h => by
    rw [chkE.eq_def] at h; dsimp only at h
    split at h
    · simp only [Bool.and_eq_true] at h
      obtain ⟨⟨h1, h2⟩, h3⟩ := h
      exact e_slc (sndE a ok h1) (sndOe lo ok h2) (sndOe hi ok h3)
    · cases h
  | .rev a, X, c, j, x, ok, h => by
    rw [chkE.eq_def] at h; dsimp only at h
    split at h
    · exact e_rev (sndE a ok h)
    · cases h
  | .fn p es, X, c, j, x, ok, h => by
    rw [chkE.eq_def] at h; dsimp only at h
    split at h
    · rename_i y py a as ps
      split at h
      · rename_i s hp
        simp only [Bool.and_eq_true, decide_eq_true_eq] at h
        obtain ⟨⟨⟨⟨rfl, h2⟩, h3⟩, h4⟩, h5⟩ := h
        obtain ⟨g1, g2, g3⟩ := gl_of ok h2
        obtain ⟨k1, k2⟩ := prim_b ok hp h4
        obtain ⟨l1, l2, l3⟩ := sndEsC es ok h5
        exact e_callB k1 g1 (ok.blt _ h3) k2 (sndEs es ok h5) g3 g2 l2 (l3 _)
      · rename_i s hp
        simp only [Bool.and_eq_true, decide_eq_true_eq] at h
        obtain ⟨⟨⟨rfl, h2⟩, h3⟩, h5⟩ := h
        obtain ⟨g1, g2, g3⟩ := gl_of ok h2
        obtain ⟨k1, k2⟩ := prim_t ok hp
        obtain ⟨l1, l2, l3⟩ := sndEsC es ok h5
        exact e_callTy k1 g1 (ok.blt _ h3) k2 (sndEs es ok h5) g3 g2 l2 (l3 _)
      · split at h
        · rename_i T e z pz hp
          simp only [Bool.and_eq_true, decide_eq_true_eq] at h
          obtain ⟨⟨⟨⟨⟨⟨⟨rfl, h2⟩, rfl⟩, h4⟩, h5⟩, h6⟩, h7⟩, h8⟩ := h
          obtain ⟨g1, g2, g3⟩ := gl_of ok h2
          obtain ⟨g4, g5, g6⟩ := gl_of ok h4
          exact e_isi g1 (ok.blt _ (by decide)) boot_isinstance (sndE e ok h8) g4 (ok.blt _ h5) (ty_boot h6) g3 g2 g6 g5 (star_of h7)
        · cases h
    · cases h
  | .mt m a es, X, c, j, x, ok, h => by
    rw [chkE.eq_def] at h; dsimp only at h
    split at h
    · split at h
      · rename_i e e'
        simp only [Bool.and_eq_true, decide_eq_true_eq] at h
        obtain ⟨⟨⟨⟨⟨⟨rfl, h2⟩, h3⟩, h4⟩, h5⟩, h6⟩, h7⟩ := h
        refine e_get2 ok.u66 (sndE a ok h5) (sndE e ok h6) (sndE e' ok h7) ⟨rfl, ?_, by rw [h2]; exact beq_self_eq_true _, ?_⟩
        · rw [star_of h3, star_of h4]; rfl
        · rw [star_of h3, star_of h4]; rfl
      · cases h
    · cases h
  | .pop i, X, c, j, x, ok, h => by
    rw [chkE.eq_def] at h; dsimp only at h
    cases h
  | .popi i e, X, c, j, x, ok, h => by
    rw [chkE.eq_def] at h; dsimp only at h
    cases h
  | .call f es, X, c, j, x, ok, h => by
    rw [chkE.eq_def] at h; dsimp only at h
    split at h
    · simp only [Bool.and_eq_true, decide_eq_true_eq] at h
      obtain ⟨⟨rfl, h2⟩, h3⟩ := h
      obtain ⟨g1, g2, g3⟩ := gl_of ok h2
      obtain ⟨l1, l2, l3⟩ := sndEsC es ok h3
      rename_i y py a as ps
      refine ⟨fun pins s σ H Q I q => ?_⟩
      cases hΦ : Φ.p y with
      | none =>
        obtain ⟨F, S, st, A, o, st', R, e, k⟩ := q
        rw [evE] at e
        obtain ⟨⟨os, s1⟩, h1, e⟩ := bindE e
        obtain ⟨qs, h2, e⟩ := bindE e
        rw [hΦ] at e
        cases e
      | some v =>
        obtain ⟨n, φ⟩ := v
        obtain ⟨k, hk, cal⟩ := ok.pf y n φ hΦ
        exact (e_call hΦ cal ok.room hk g1 (sndEs es ok h3) g2 l2 (l3 _)).run pins s σ H Q I q
    · cases h
  | .calls f es, X, c, j, x, ok, h => by
    rw [chkE.eq_def] at h; dsimp only at h
    split at h
    · simp only [Bool.and_eq_true, decide_eq_true_eq] at h
      obtain ⟨⟨rfl, h2⟩, h3⟩ := h
      obtain ⟨g1, g2, g3⟩ := gl_of ok h2
      obtain ⟨l1, l2, l3⟩ := sndEsC es ok h3
      rename_i y py a as ps
      refine ⟨fun pins s σ H Q I q => ?_⟩
      cases hΦ : Φ.s y with
      | none =>
        obtain ⟨F, S, st, A, o, st', R, e, k⟩ := q
        rw [evE] at e
        obtain ⟨⟨os, s1⟩, h1, e⟩ := bindE e
        obtain ⟨qs, h2, e⟩ := bindE e
        rw [hΦ] at e
        cases e
      | some v =>
        obtain ⟨n, φ⟩ := v
        obtain ⟨k, hk, cal⟩ := ok.sf y n φ hΦ
        exact (e_calls hΦ cal ok.room hk g1 (sndEs es ok h3) g2 l2 (l3 _)).run pins s σ H Q I q
    · cases h
  | .lc m e tg it oc own, X, c, j, x, ok, h => by
    rw [chkE.eq_def] at h; dsimp only at h
    split at h
    · rename_i elt t i ifs scope pos
      simp only [Bool.and_eq_true, decide_eq_true_eq, Bool.not_eq_true', List.all_eq_true] at h
      obtain ⟨⟨⟨⟨⟨⟨⟨⟨rfl, h1⟩, h2⟩, h3⟩, h4⟩, h5⟩, h6⟩, h7⟩, h8⟩ := h
      have eo : (own.map fun (k : Nat) => (((c.N[k]?).getD "" : Str), k)).map (·.2) = own := by rw [List.map_map]; exact List.map_id' own
      have blk : BlkOk X.N X.env.scope scope (own.map fun (k : Nat) => (((c.N[k]?).getD "" : Str), k)) := by rw [ok.N, ok.sc]; exact blkOk_by h1
      have q := e_lc (Φ := Φ) (ee := e) (et := tg) (ei := it) (ec := oc) (elt := elt) (pos := pos) ok.calm (nd_of ok) (sndIt it ok h5) blk (fun k hk => by rw [eo]; exact h4 k hk)
        (fun s H C cl fp => sndTg tg (blk_of ok h2 s H C cl fp) h6) (fun s H C cl fp => sndOc oc (blk_of ok h2 s H C cl fp) h7) (fun s H C cl fp => sndE e (blk_of ok h2 s H C cl fp) h8) (fold_of h3)
      rw [eo] at q
      exact q
    · cases h
  | .rng .., X, c, j, x, ok, h => by
    rw [chkE.eq_def] at h; dsimp only at h
    cases h
  | .rng0 .., X, c, j, x, ok, h => by
    rw [chkE.eq_def] at h; dsimp only at h
    cases h
  | .dnew t, X, c, j, x, ok, h => by
    rw [chkE.eq_def] at h; dsimp only at h
    split at h
    · exact e_dnew
    · cases h
  | .dof t e, X, c, j, x, ok, h => by
    rw [chkE.eq_def] at h; dsimp only at h
    split at h
    · simp only [Bool.and_eq_true, decide_eq_true_eq] at h
      obtain ⟨⟨⟨⟨rfl, rfl⟩, h2⟩, h3⟩, h4⟩ := h
      obtain ⟨g1, g2, g3⟩ := gl_of ok h2
      exact e_dof ok.calm ok.u66 g1 (ok.blt _ (by decide)) boot_dict (sndE e ok h4) g3 g2 (star_of h3)
    · cases h
  | .sg i k, X, c, j, x, ok, h => by
    rw [chkE.eq_def] at h; dsimp only at h
    split at h
    · simp only [Bool.and_eq_true, decide_eq_true_eq] at h
      obtain ⟨h1, rfl⟩ := h
      obtain ⟨k1, k2, k3, k4⟩ := nm_of ok h1
      exact e_sg ok.u66 k1 k2 k3 k4
    · cases h
  | .sl i, X, c, j, x, ok, h => by
    rw [chkE.eq_def] at h; dsimp only at h
    split at h
    · simp only [Bool.and_eq_true, decide_eq_true_eq] at h
      obtain ⟨⟨⟨rfl, h2⟩, h1⟩, rfl⟩ := h
      obtain ⟨k1, k2, k3, k4⟩ := nm_of ok h1
      obtain ⟨g1, g2, g3⟩ := gl_of ok h2
      exact e_sl ok.u66 k1 k2 k3 k4 g1 (ok.blt _ (by decide)) (by decide +kernel) g3 g2
    · cases h
  | .sp i, X, c, j, x, ok, h => by
    rw [chkE.eq_def] at h; dsimp only at h
    split at h
    · simp only [Bool.and_eq_true, decide_eq_true_eq] at h
      obtain ⟨⟨⟨rfl, h1⟩, rfl⟩, h4⟩ := h
      obtain ⟨k1, k2, k3, k4⟩ := nm_of ok h1
      exact e_sp ok.u66 k1 k2 k3 k4 (by rw [h4]; exact beq_self_eq_true _)
    · cases h
theorem sndEs : ∀ (es : Es) {X : Cx} {c : Ctx} {j : Nat} {xs : List Expr}, CtxOk Φ X c j → chkEs c es xs = true → PA X xs (tEs Φ X.K es)
  | .nil, X, c, j, xs, ok, h => by
    rw [chkEs.eq_def] at h; dsimp only at h
    split at h
    · exact a_nil
    · cases h
  | .cons e es, X, c, j, xs, ok, h => by
    rw [chkEs.eq_def] at h; dsimp only at h
    split at h
    · simp only [Bool.and_eq_true] at h
      exact a_cons (sndE e ok h.1.2) (sndEs es ok h.2) (star_of h.1.1)
    · cases h
/-- what is seen of an argument list -/
theorem sndEsC : ∀ (es : Es) {X : Cx} {c : Ctx} {j : Nat} {a : Expr} {as : List Expr}, CtxOk Φ X c j → chkEs c es (a :: as) = true →
    as.all plainE = true ∧ starEach (a :: as) X.env = (false, eval a X.env) :: starEach as X.env ∧ ∀ pos, (backTo pos (starEach as X.env)).any (·.1) = false
  | .nil, X, c, j, a, as, ok, h => by
    rw [chkEs.eq_def] at h; dsimp only at h
    cases h
  | .cons e es, X, c, j, a, as, ok, h => by
    rw [chkEs.eq_def] at h; dsimp only at h
    simp only [Bool.and_eq_true] at h
    refine ⟨?_, star_of h.1.1, fun pos => ?_⟩
    · cases as with
      | nil => rfl
      | cons b bs =>
        have q := h.2
        cases es with
        | nil => rw [chkEs.eq_def] at q; dsimp only at q; cases q
        | cons e' es' =>
          obtain ⟨k1, k2, k3⟩ := sndEsC (.cons e' es') ok q
          rw [chkEs.eq_def] at q; dsimp only at q
          simp only [Bool.and_eq_true] at q
          rw [List.all_cons, k1, q.1.1]
          rfl
    · cases as with
      | nil => rfl
      | cons b bs =>
        have q := h.2
        cases es with
        | nil => rw [chkEs.eq_def] at q; dsimp only at q; cases q
        | cons e' es' =>
          obtain ⟨k1, k2, k3⟩ := sndEsC (.cons e' es') ok q
          rw [k2]
          show (false || (backTo pos (starEach bs X.env)).any (·.1)) = false
          rw [k3 pos]
          rfl
theorem sndOe : ∀ (o : Oe) {X : Cx} {c : Ctx} {j : Nat} {x : Option Expr}, CtxOk Φ X c j → chkOe c o x = true → PO X x (tOe Φ X.K o)
  | .no, X, c, j, x, ok, h => by
    rw [chkOe.eq_def] at h; dsimp only at h
    split at h
    · exact p_no
    · cases h
  | .yes e, X, c, j, x, ok, h => by
    rw [chkOe.eq_def] at h; dsimp only at h
    split at h
    · exact p_yes (sndE e ok h)
    · cases h
theorem sndOc : ∀ (o : Oc) {X : Cx} {c : Ctx} {j : Nat} {xs : List Expr}, CtxOk Φ X c j → chkOc c o xs = true → PTs X xs (tOc Φ X.K o)
  | .no, X, c, j, xs, ok, h => by
    rw [chkOc.eq_def] at h; dsimp only at h
    split at h
    · exact c_no
    · cases h
  | .yes t, X, c, j, xs, ok, h => by
    rw [chkOc.eq_def] at h; dsimp only at h
    split at h
    · exact c_yes (sndT t ok h).1
    · cases h
theorem sndT : ∀ (t : T) {X : Cx} {c : Ctx} {j : Nat} {x : Expr}, CtxOk Φ X c j → chkT c t x = true → PT X x (tT Φ X.K t) ∧ (isBool x = true → PW X x (tT Φ X.K t))
  | .v e, X, c, j, x, ok, h => by
    rw [chkT.eq_def] at h; dsimp only at h
    split at h
    · rename_i op a b
      split at h
      · simp only [Bool.and_eq_true, decide_eq_true_eq] at h
        obtain ⟨⟨⟨rfl, h1⟩, h2⟩, h3⟩ := h
        exact ⟨t_cmp ok.u66 op (sndE a ok h2) (sndE b ok h3) (behind_of h1), fun z => nomatch (show false = true from z)⟩
      · cases h
    · simp only [Bool.and_eq_true] at h
      refine ⟨t_val (sndE _ ok h.2) (true_of h.1.1 h.1.2), fun z => ?_⟩
      have z2 := h.1.2
      cases x <;> first | exact nomatch (show false = true from z) | exact nomatch (show false = true from z2)
  | .not t, X, c, j, x, ok, h => by
    rw [chkT.eq_def] at h; dsimp only at h
    split at h
    · exact ⟨t_not (sndT t ok h).1, fun z => nomatch (show false = true from z)⟩
    · cases h
  | .and a b, X, c, j, x, ok, h => by
    rw [chkT.eq_def] at h; dsimp only at h
    split at h
    · rw [Bool.and_eq_true] at h
      obtain ⟨h1, h2⟩ := h
      rename_i l r rest p
      have q : PW X (.BoolOp .And (l :: r :: rest) p) (tT Φ X.K (.and a b)) := w_and (sndT a ok h1).1 (by
        split at h2
        · exact pw_and1 (sndT b ok h2).1
        · exact (sndT b ok h2).2 rfl)
      exact ⟨q.pt, fun _ => q⟩
    · cases h
  | .or a b, X, c, j, x, ok, h => by
    rw [chkT.eq_def] at h; dsimp only at h
    split at h
    · rw [Bool.and_eq_true] at h
      obtain ⟨h1, h2⟩ := h
      rename_i l r rest p
      have q : PW X (.BoolOp .Or (l :: r :: rest) p) (tT Φ X.K (.or a b)) := w_or (sndT a ok h1).1 (by
        split at h2
        · exact pw_or1 (sndT b ok h2).1
        · exact (sndT b ok h2).2 rfl)
      exact ⟨q.pt, fun _ => q⟩
    · cases h
theorem sndIt : ∀ (i : Vm.It) {X : Cx} {c : Ctx} {j : Nat} {t x : Expr}, CtxOk Φ X c j → chkIt c i t x = true → PI X t x (tIt Φ X.K i)
  | .seq e, X, c, j, t, x, ok, h => by
    rw [chkIt.eq_def] at h; dsimp only at h
    exact i_seq (sndE e ok h)
  | .rng1 e, X, c, j, t, x, ok, h => by
    rw [chkIt.eq_def] at h; dsimp only at h
    split at h
    · simp only [Bool.and_eq_true, decide_eq_true_eq] at h
      obtain ⟨⟨⟨rfl, h2⟩, h3⟩, h4⟩ := h
      exact i_rng1 (gl_of ok h2).1 (ok.blt _ (by decide)) (sndE e ok h4) (star_of h3)
    · cases h
  | .rng2 e e', X, c, j, t, x, ok, h => by
    rw [chkIt.eq_def] at h; dsimp only at h
    split at h
    · simp only [Bool.and_eq_true, decide_eq_true_eq] at h
      obtain ⟨⟨⟨⟨⟨rfl, h2⟩, h3⟩, h4⟩, h5⟩, h6⟩ := h
      exact i_rng2 (gl_of ok h2).1 (ok.blt _ (by decide)) (sndE e ok h5) (sndE e' ok h6) (by rw [star_of h3, star_of h4]; rfl) (star_of h4)
    · cases h
  | .rng3 .., X, c, j, t, x, ok, h => by
    rw [chkIt.eq_def] at h; dsimp only at h
    cases h
  | .enum e, X, c, j, t, x, ok, h => by
    rw [chkIt.eq_def] at h; dsimp only at h
    cases h
  | .zip e e', X, c, j, t, x, ok, h => by
    rw [chkIt.eq_def] at h; dsimp only at h
    split at h
    · simp only [Bool.and_eq_true, decide_eq_true_eq] at h
      obtain ⟨⟨⟨⟨⟨rfl, h2⟩, h3⟩, h4⟩, h5⟩, h6⟩ := h
      exact i_zip (gl_of ok h2).1 (ok.blt _ (by decide)) (sndE e ok h5) (sndE e' ok h6) (star_of h3) (star_of h4) (by rw [star_of h4]; rfl)
    · cases h
  | .zips e e', X, c, j, t, x, ok, h => by
    rw [chkIt.eq_def] at h; dsimp only at h
    split at h
    · simp only [Bool.and_eq_true, decide_eq_true_eq] at h
      obtain ⟨⟨⟨⟨⟨⟨rfl, rfl⟩, h2⟩, h3⟩, h4⟩, h5⟩, h6⟩ := h
      exact i_zips (gl_of ok h2).1 (ok.blt _ (by decide)) (sndE e ok h5) (sndE e' ok h6) (star_of h3) (star_of h4) (by rw [star_of h4]; rfl)
    · cases h
end
end
end Vm


set_option Elab.async false
set_option linter.all false
set_option maxRecDepth 100000
set_option maxHeartbeats 4000000
/-! Vm, part 21: what is checked is what is computed: statements. -/
namespace Vm
open PySem PySem.Spec PyProof.Rows L2

def isLocN (c : Ctx) : Expr → Bool
  | .Name x _ => decide (c.sc.names.lookup x = some .local)
  | _ => false
def lineOf (ts : List Expr) : Nat := (ts.head?.map (·.pos.line)).getD 0
section
variable {env : Env} {c : Ctx}
theorem bk_of (hs : env.scope = c.sc) (hk : c.sc.kind = .function) : env.blockKind = .function := by
  unfold Env.blockKind
  rw [hs, hk]
  rfl
theorem nostar_of {vs : List Expr} (h : vs.all plainE = true) : (vs.any fun | .Starred .. => true | _ => false) = false := by
  induction vs with
  | nil => rfl
  | cons v vs ih =>
    rw [List.all_cons, Bool.and_eq_true] at h
    rw [List.any_cons, ih h.2]
    have q := h.1
    cases v <;> first | rfl | exact nomatch (show false = true from q)
/-- the pair is not exchanged: a target is no plain local -/
theorem swapped_no {ts vs : List Expr} {k k2 : Nat} {p p2 : Pos} (hs : env.scope = c.sc) (h : ts.any (fun t => !isLocN c t) = true) : swappedStores [.Tuple ts k p] (.Tuple vs k2 p2) env = pure none := by
  have hl : (ts.filterMap fun
    | .Name id pos => if env.kindOf id == some .local && pos.line == (ts.head?.map (·.pos.line)).getD 0 then some id else none
    | _ => none).length ≠ ts.length := by
    generalize (ts.head?.map (·.pos.line)).getD 0 = line
    have lt : ∀ l : List Expr, l.any (fun t => !isLocN c t) = true → (l.filterMap fun
        | .Name id pos => if env.kindOf id == some .local && pos.line == line then some id else none
        | _ => none).length < l.length := by
      intro l
      induction l with
      | nil => intro h; cases h
      | cons t l ih =>
        intro h
        have le : (l.filterMap fun
          | .Name id pos => if env.kindOf id == some .local && pos.line == line then some id else none
          | _ => none).length ≤ l.length := List.length_filterMap_le ..
        rw [List.any_cons, Bool.or_eq_true] at h
        rw [List.filterMap_cons]
        rcases h with h | h
        · have z : (match t with
            | .Name id pos => if env.kindOf id == some .local && pos.line == line then some id else none
            | _ => none) = none := by
            cases t <;> first | rfl | skip
            rename_i x px
            have hx : ¬ c.sc.names.lookup x = some .local := by
              simpa [isLocN] using h
            have hx' : (env.kindOf x == some .local) = false := by
              rw [beq_eq_false_iff_ne]
              show env.scope.names.lookup x ≠ _
              rw [hs]
              exact hx
            simp [hx']
          rw [z]
          simp only [List.length_cons]
          omega
        · have q := ih h
          split <;> simp only [List.length_cons] <;> omega
    exact Nat.ne_of_lt (lt ts h)
  unfold swappedStores
  simp only [pure_bind]
  split
  · rfl
  · split
    · rfl
    · rw [if_pos]
      rw [Bool.or_eq_true]
      exact .inl (bne_iff_ne.mpr hl)
theorem swapped_2 {x y : Str} {px py : Pos} {a b : Expr} {k k2 : Nat} {p p2 : Pos} (hs : env.scope = c.sc) (hk : c.sc.kind = .function) (hx : c.sc.names.lookup x = some .local) (hy : c.sc.names.lookup y = some .local) (hl : py.line = px.line) (hxy : x ≠ y)
    (ha : plainE a = true) (hb : plainE b = true) (hf : (foldedForSure 8 a && foldedForSure 8 b) = false) (hc : (constantsAlone 8 a && constantsAlone 8 b) = false) : swappedStores [.Tuple [.Name x px, .Name y py] k p] (.Tuple [a, b] k2 p2) env = pure (some [x, y]) := by
  have kx : env.kindOf x = some .local := by show env.scope.names.lookup x = _; rw [hs]; exact hx
  have ky : env.kindOf y = some .local := by show env.scope.names.lookup y = _; rw [hs]; exact hy
  have bk := bk_of hs hk
  have ns := nostar_of (vs := [a, b]) (by simp [ha, hb])
  have e1 : (x == y) = false := beq_eq_false_iff_ne.mpr hxy
  have e2 : (y == x) = false := beq_eq_false_iff_ne.mpr (Ne.symm hxy)
  unfold swappedStores
  simp only [pure_bind]
  rw [if_neg (by rw [bk]; simp)]
  split
  · rename_i w
    exact absurd (show (List.any _ _) = true from w) (Bool.not_eq_true _ ▸ ns)
  simp [kx, ky, hl, Expr.pos, List.eraseDups, List.eraseDupsBy, List.eraseDupsBy.loop, e1, e2, hf, hc]
theorem swapped_3 {x y z : Str} {px py pz : Pos} {a b d : Expr} {k k2 : Nat} {p p2 : Pos} (hs : env.scope = c.sc) (hk : c.sc.kind = .function) (hx : c.sc.names.lookup x = some .local) (hy : c.sc.names.lookup y = some .local) (hz : c.sc.names.lookup z = some .local) (hl : py.line = px.line) (hl2 : pz.line = px.line) (hxy : x ≠ y) (hxz : x ≠ z) (hyz : y ≠ z)
    (ha : plainE a = true) (hb : plainE b = true) (hd : plainE d = true) (hf : (foldedForSure 8 a && (foldedForSure 8 b && foldedForSure 8 d)) = false) (hc : (constantsAlone 8 a && (constantsAlone 8 b && constantsAlone 8 d)) = false) :
    swappedStores [.Tuple [.Name x px, .Name y py, .Name z pz] k p] (.Tuple [a, b, d] k2 p2) env = pure (some [x, y, z]) := by
  have kx : env.kindOf x = some .local := by show env.scope.names.lookup x = _; rw [hs]; exact hx
  have ky : env.kindOf y = some .local := by show env.scope.names.lookup y = _; rw [hs]; exact hy
  have kz : env.kindOf z = some .local := by show env.scope.names.lookup z = _; rw [hs]; exact hz
  have bk := bk_of hs hk
  have ns := nostar_of (vs := [a, b, d]) (by simp [ha, hb, hd])
  have e1 : (x == y) = false := beq_eq_false_iff_ne.mpr hxy
  have e2 : (y == x) = false := beq_eq_false_iff_ne.mpr (Ne.symm hxy)
  have e3 : (x == z) = false := beq_eq_false_iff_ne.mpr hxz
  have e4 : (z == x) = false := beq_eq_false_iff_ne.mpr (Ne.symm hxz)
  have e5 : (y == z) = false := beq_eq_false_iff_ne.mpr hyz
  have e6 : (z == y) = false := beq_eq_false_iff_ne.mpr (Ne.symm hyz)
  unfold swappedStores
  simp only [pure_bind]
  rw [if_neg (by rw [bk]; simp)]
  split
  · rename_i w
    exact absurd (show (List.any _ _) = true from w) (Bool.not_eq_true _ ▸ ns)
  simp [kx, ky, kz, hl, hl2, Expr.pos, List.eraseDups, List.eraseDupsBy, List.eraseDupsBy.loop, e1, e2, e3, e4, e5, e6, hf, hc]
end

/-! ### the check -/
def namesOk (c : Ctx) : List Nat → List Expr → Bool
  | [], [] => true
  | i :: is, .Name x _ :: ts => locOk c i x && namesOk c is ts
  | _, _ => false
def parOk (c : Ctx) (is : List Nat) (ts vs : List Expr) : Bool :=
  match is, ts, vs with
  | [i, j], [.Name x px, .Name y py], [a, b] =>
    (plocOk c i x && plocOk c j y && decide (i ≠ j) && decide (x ≠ y) && decide (py.line = px.line) && plainE a && plainE b && !(foldedForSure 8 a && foldedForSure 8 b) && !(constantsAlone 8 a && constantsAlone 8 b)) ||
      (namesOk c is ts && ts.any (fun t => !isLocN c t))
  | [i, j, l], [.Name x px, .Name y py, .Name z pz], [a, b, d] =>
    (plocOk c i x && plocOk c j y && plocOk c l z && decide (i ≠ j) && decide (i ≠ l) && decide (j ≠ l) && decide (x ≠ y) && decide (x ≠ z) && decide (y ≠ z) && decide (py.line = px.line) && decide (pz.line = px.line) && plainE a && plainE b && plainE d &&
      !(foldedForSure 8 a && (foldedForSure 8 b && foldedForSure 8 d)) && !(constantsAlone 8 a && (constantsAlone 8 b && constantsAlone 8 d))) || (namesOk c is ts && ts.any (fun t => !isLocN c t))
  | _, _, _ => false
mutual
def chkS (c : Ctx) : S → Stmt → Bool
  | .set i e, x => match x with
    | .Assign [.Name y _] v _ => locOk c i y && plainE v && noLc v && chkE c e v
    | _ => false
  | .par is es, x => match x with
    | .Assign [.Tuple ts _ _] (.Tuple vs _ _) _ => chkEs c es vs && parOk c is ts vs
    | _ => false
  | .unp .., _ => false
  | .aug .., _ => false
  | .sti i k e, x => match x with
    | .Assign [.Subscript (.Name y _) b _] v _ => nmOk c i y && plainE b && plainE v && noLc v && chkE c k b && chkE c e v
    | _ => false
  | .aui .., _ => false
  | .app i e, x => match x with
    | .Expr (.Call (.Attribute (.Name y _) g ap) [a] [] cp) _ => nmOk c i y && decide (g = Str.ofString "append") && decide (ap.endLine = cp.line) && plainE a && chkE c e a
    | _ => false
  | .ext .., _ => false
  | .ap2 .., _ => false
  | .expr _, _ => false
  | .ifs t a b, x => match x with
    | .If y A B _ => chkT c t y && chkSs c a A && chkSs c b B
    | _ => false
  | .forr tg it b, x => match x with
    | .For t i B [] _ => plainE i && chkIt c it t i && chkTg c tg t && chkSs c b B
    | _ => false
  | .whl _ t b, x => match x with
    | .While y B [] _ => chkT c t y && chkSs c b B
    | _ => false
  | .sw i k e, x => match x with
    | .Assign [.Subscript (.Name y _) (.Constant (.str t) _ _) _] v _ => nmOk c i y && decide (t = k) && plainE v && noLc v && chkE c e v
    | _ => false
  | .ret e, x => match x with
    | .Return (some a) _ => chkE c e a
    | _ => false
  | .retn, x => match x with
    | .Return none _ => true
    | _ => false
  | .brk, x => match x with
    | .Break _ => true
    | _ => false
  | .cnt, x => match x with
    | .Continue _ => true
    | _ => false
  | .pass, x => match x with
    | .Pass _ => true
    | _ => false
def chkSs (c : Ctx) : Ss → List Stmt → Bool
  | .nil, x => match x with
    | [] => true
    | _ => false
  | .cons s ss, x => match x with
    | a :: as => chkS c s a && chkSs c ss as
    | _ => false
end

/-! ### it is sound -/
section
variable {Φ : Fs} {X : Cx} {c : Ctx} {j : Nat}
theorem ploc_of (ok : CtxOk Φ X c j) {i : Nat} {x : Str} (h : plocOk c i x = true) : X.N[i]? = some x ∧ X.env.scope.names.lookup x = some .local ∧ c.sc.names.lookup x = some .local := by
  unfold plocOk at h
  simp only [Bool.and_eq_true, decide_eq_true_eq] at h
  exact ⟨by rw [ok.N]; exact h.1, by rw [ok.sc]; exact h.2, h.2⟩
theorem names_of (ok : CtxOk Φ X c j) : ∀ {is : List Nat} {ts : List Expr}, namesOk c is ts = true → PGs X ts (gNms is) ∧ (assignEach ts X.env).length = is.length ∧ (assignEach ts X.env).findIdx? (·.1) = none
  | [], [], _ => ⟨gn_nil, rfl, rfl⟩
  | [], _ :: _, h => by cases h
  | _ :: _, [], h => by cases h
  | i :: is, t :: ts, h => by
    cases t <;> first | (exact nomatch (show false = true from h)) | skip
    rename_i x px
    have h : (locOk c i x && namesOk c is ts) = true := h
    rw [Bool.and_eq_true] at h
    obtain ⟨h1, h2, h3⟩ := names_of ok h.2
    obtain ⟨k1, k2, k3⟩ := loc_of ok h.1
    refine ⟨gn_cons (pg_name (nd_of ok) k1 k2 k3) h1 rfl, ?_, ?_⟩
    · show (assignEach ts X.env).length + 1 = is.length + 1
      rw [h2]
    · show ((false, assign (.Name x px) X.env) :: assignEach ts X.env).findIdx? (·.1) = none
      rw [List.findIdx?_cons, h3]
      rfl
theorem snd_par (ok : CtxOk Φ X c j) {is : List Nat} {ts vs : List Expr} {es : Es} {kt k2 : Nat} {pt pt2 pos : Pos} (h1 : chkEs c es vs = true) (h2 : parOk c is ts vs = true) : PS X (.Assign [.Tuple ts kt pt] (.Tuple vs k2 pt2) pos) (tS Φ X.K (.par is es)) := by
  have ha := sndEs es ok h1
  have byT : is.length ≤ sizeLine → (namesOk c is ts && ts.any (fun t => !isLocN c t)) = true → PS X (.Assign [.Tuple ts kt pt] (.Tuple vs k2 pt2) pos) (tS Φ X.K (.par is es)) := fun hz h => by
    rw [Bool.and_eq_true] at h
    obtain ⟨g1, g2, g3⟩ := names_of ok h.1
    exact s_parT ok.calm g1 g2 g3 hz ha (swapped_no ok.sc h.2)
  unfold parOk at h2
  split at h2
  · rw [Bool.or_eq_true] at h2
    rcases h2 with h2 | h2
    · simp only [Bool.and_eq_true, decide_eq_true_eq, Bool.not_eq_true'] at h2
      obtain ⟨⟨⟨⟨⟨⟨⟨⟨z1, z2⟩, z3⟩, z4⟩, z5⟩, z6⟩, z7⟩, z8⟩, z9⟩ := h2
      obtain ⟨a1, a2, a3⟩ := ploc_of ok z1
      obtain ⟨b1, b2, b3⟩ := ploc_of ok z2
      exact s_par2 ok.calm (nd_of ok) a1 b1 z3 a2 b2 ha (swapped_2 ok.sc ok.kind a3 b3 z5 z4 z6 z7 z8 z9)
    · exact byT (by rw [sizeLine_eq]; simp) h2
  · rw [Bool.or_eq_true] at h2
    rcases h2 with h2 | h2
    · simp only [Bool.and_eq_true, decide_eq_true_eq, Bool.not_eq_true'] at h2
      obtain ⟨⟨⟨⟨⟨⟨⟨⟨⟨⟨⟨⟨⟨⟨⟨z1, z2⟩, z3⟩, z4⟩, z5⟩, z6⟩, z7⟩, z8⟩, z9⟩, y1⟩, y2⟩, y3⟩, y4⟩, y5⟩, y6⟩, y7⟩ := h2
      obtain ⟨a1, a2, a3⟩ := ploc_of ok z1
      obtain ⟨b1, b2, b3⟩ := ploc_of ok z2
      obtain ⟨d1, d2, d3⟩ := ploc_of ok z3
      exact s_par3 ok.calm (nd_of ok) a1 b1 d1 z4 z5 z6 a2 b2 d2 ha (swapped_3 ok.sc ok.kind a3 b3 d3 y1 y2 z7 z8 z9 y3 y4 y5 y6 y7)
    · exact byT (by rw [sizeLine_eq]; simp) h2
  · cases h2
end
section
variable {Φ : Fs}
mutual
theorem sndS : ∀ (e : S) {X : Cx} {c : Ctx} {j : Nat} {x : Stmt}, CtxOk Φ X c j → chkS c e x = true → PS X x (tS Φ X.K e)
  | .set i e, X, c, j, x, ok, h => by
    rw [chkS.eq_def] at h; dsimp only at h
    split at h
    · simp only [Bool.and_eq_true] at h
      obtain ⟨⟨⟨h1, h2⟩, h3⟩, h4⟩ := h
      obtain ⟨k1, k2, k3⟩ := loc_of ok h1
      exact s_set (nd_of ok) k1 k2 (sndE e ok h4) (swap_of h2 h3) k3
    · cases h
  | .par is es, X, c, j, x, ok, h => by
    rw [chkS.eq_def] at h; dsimp only at h
    split at h
    · rw [Bool.and_eq_true] at h
      exact snd_par ok h.1 h.2
    · cases h
  | .unp .., X, c, j, x, ok, h => by
    rw [chkS.eq_def] at h; dsimp only at h
    cases h
  | .aug .., X, c, j, x, ok, h => by
    rw [chkS.eq_def] at h; dsimp only at h
    cases h
  | .sti i k e, X, c, j, x, ok, h => by
    rw [chkS.eq_def] at h; dsimp only at h
    split at h
    · rename_i y py b pb v pv
      simp only [Bool.and_eq_true] at h
      obtain ⟨⟨⟨⟨⟨h1, h2⟩, h3⟩, h4⟩, h5⟩, h6⟩ := h
      obtain ⟨k1, k2, k3, k4⟩ := nm_of ok h1
      refine s_sti ok.u66 k1 k2 k3 k4 (sndE k ok h5) (sndE e ok h6) (show swapsWith v (some (.Subscript (.Name y py) b pb)) pv.line X.env = pure false from swap_of h3 h4) fun w => ?_
      cases b <;> first | rfl | exact nomatch (show false = true from h2)
    · cases h
  | .aui .., X, c, j, x, ok, h => by
    rw [chkS.eq_def] at h; dsimp only at h
    cases h
  | .app i e, X, c, j, x, ok, h => by
    rw [chkS.eq_def] at h; dsimp only at h
    split at h
    · simp only [Bool.and_eq_true, decide_eq_true_eq] at h
      obtain ⟨⟨⟨⟨h1, rfl⟩, h3⟩, h4⟩, h5⟩ := h
      obtain ⟨k1, k2, k3, k4⟩ := nm_of ok h1
      exact s_app k1 k2 k3 k4 (sndE e ok h5) (by rw [h3]; exact beq_self_eq_true _) (star_of h4) (by rw [star_of h4]; rfl)
    · cases h
  | .ext .., X, c, j, x, ok, h => by
    rw [chkS.eq_def] at h; dsimp only at h
    cases h
  | .ap2 .., X, c, j, x, ok, h => by
    rw [chkS.eq_def] at h; dsimp only at h
    cases h
  | .expr _, X, c, j, x, ok, h => by
    rw [chkS.eq_def] at h; dsimp only at h
    cases h
  | .ifs t a b, X, c, j, x, ok, h => by
    rw [chkS.eq_def] at h; dsimp only at h
    split at h
    · simp only [Bool.and_eq_true] at h
      obtain ⟨⟨h1, h2⟩, h3⟩ := h
      exact s_ifs (sndT t ok h1).1 (sndSs a ok h2) (sndSs b ok h3)
    · cases h
  | .forr tg it b, X, c, j, x, ok, h => by
    rw [chkS.eq_def] at h; dsimp only at h
    split at h
    · simp only [Bool.and_eq_true] at h
      obtain ⟨⟨⟨h1, h2⟩, h3⟩, h4⟩ := h
      exact s_forr (by rw [ok.xe]; exact PassesOwn.never) ok.calm (sndIt it ok h2) (sndTg tg ok h3) (sndSs b ok h4) (fold_of h1)
    · cases h
  | .whl f t b, X, c, j, x, ok, h => by
    rw [chkS.eq_def] at h; dsimp only at h
    split at h
    · rw [Bool.and_eq_true] at h
      exact s_whl (by rw [ok.xe]; exact PassesOwn.never) (sndT t ok h.1).1 (sndSs b ok h.2)
    · cases h
  | .sw i k e, X, c, j, x, ok, h => by
    rw [chkS.eq_def] at h; dsimp only at h
    split at h
    · rename_i y py t kk pk pt v pv
      simp only [Bool.and_eq_true, decide_eq_true_eq] at h
      obtain ⟨⟨⟨⟨h1, rfl⟩, h3⟩, h4⟩, h5⟩ := h
      obtain ⟨k1, k2, k3, k4⟩ := nm_of ok h1
      exact s_sw ok.u66 k1 k2 k3 k4 (sndE e ok h5) (show swapsWith v (some (.Subscript (.Name y py) (.Constant (.str t) kk pk) pt)) pv.line X.env = pure false from swap_of h3 h4)
    · cases h
  | .ret e, X, c, j, x, ok, h => by
    rw [chkS.eq_def] at h; dsimp only at h
    split at h
    · exact s_ret (sndE e ok h)
    · cases h
  | .retn, X, c, j, x, ok, h => by
    rw [chkS.eq_def] at h; dsimp only at h
    split at h
    · exact s_retn
    · cases h
  | .brk, X, c, j, x, ok, h => by
    rw [chkS.eq_def] at h; dsimp only at h
    split at h
    · exact s_brk
    · cases h
  | .cnt, X, c, j, x, ok, h => by
    rw [chkS.eq_def] at h; dsimp only at h
    split at h
    · exact s_cnt
    · cases h
  | .pass, X, c, j, x, ok, h => by
    rw [chkS.eq_def] at h; dsimp only at h
    split at h
    · exact s_pass
    · cases h
theorem sndSs : ∀ (e : Ss) {X : Cx} {c : Ctx} {j : Nat} {x : List Stmt}, CtxOk Φ X c j → chkSs c e x = true → PSs X x (tSs Φ X.K e)
  | .nil, X, c, j, x, ok, h => by
    rw [chkSs.eq_def] at h; dsimp only at h
    split at h
    · exact ss_nil
    · cases h
  | .cons s ss, X, c, j, x, ok, h => by
    rw [chkSs.eq_def] at h; dsimp only at h
    split at h
    · rw [Bool.and_eq_true] at h
      exact ss_cons (sndS s ok h.1) (sndSs ss ok h.2)
    · cases h
end
end
end Vm


set_option Elab.async false
set_option linter.all false
set_option maxRecDepth 100000
set_option maxHeartbeats 4000000
/-! Vm, part 22: a function of the text keeps its promise. -/
namespace Vm
open PySem PySem.Spec PyProof.Rows L2

section
variable {K : PySem.W.Frag} {F H : Hp} {S : List Addr} {os : List O} {vs : List V} {N : List Str} {src : Option Src}
theorem args_get : ∀ {os : List O} {vs : List V} {i : Nat} {o : O}, Args K F H S os vs → os[i]? = some o → ∃ v, vs[i]? = some v ∧ OwnAt K F H S [] o v []
  | [], _, _, _, .nil, e => by simp at e
  | _ :: _, _ :: _, 0, _, .cons h _, e => ⟨_, rfl, by simp at e; exact e ▸ h⟩
  | _ :: _, _ :: _, i + 1, _, .cons _ t, e => by
    obtain ⟨v, h1, h2⟩ := args_get (i := i) t (by simpa using e)
    exact ⟨v, by simpa using h1, h2⟩
/-- the state at a function's entry -/
theorem rel_start (s : Same F H) (sr : SrcRel F H S src) (a : Args K F H S os vs) : Rel K F H S (start N vs) ⟨initR N.length os, src⟩ (fun _ => []) where
  same := s
  slots := fun i o e => by
    have e : (os.map some ++ List.replicate (N.length - os.length) none)[i]? = some (some o) := e
    have hi : i < os.length := by
      refine Nat.lt_of_not_le fun z => ?_
      rw [List.getElem?_append_right (by simpa using z), List.getElem?_replicate] at e
      split at e <;> cases e
    rw [List.getElem?_append_left (by simpa using hi), List.getElem?_map] at e
    cases q : os[i]? with
    | none => rw [q] at e; cases e
    | some o' =>
      rw [q] at e
      cases e
      obtain ⟨v, h1, h2⟩ := args_get a q
      refine ⟨v, ?_, h2.reslot⟩
      show (vs.map some ++ List.replicate (N.length - vs.length) none)[i]? = some (some v)
      rw [List.getElem?_append_left (by rw [List.length_map, ← Paired.len a]; exact hi), List.getElem?_map, h1]
      rfl
  nobor := fun i j e => by
    have e : (os.map some ++ List.replicate (N.length - os.length) none)[i]? = some (some (O.bor j)) := e
    have hi : i < os.length := by
      refine Nat.lt_of_not_le fun z => ?_
      rw [List.getElem?_append_right (by simpa using z), List.getElem?_replicate] at e
      split at e <;> cases e
    rw [List.getElem?_append_left (by simpa using hi), List.getElem?_map] at e
    cases q : os[i]? with
    | none => rw [q] at e; cases e
    | some o' =>
      rw [q] at e
      cases e
      obtain ⟨v, h1, h2⟩ := args_get a q
      have z := (show _ ∧ _ from h2).2
      simp at z
  nod := fun _ => List.nodup_nil
  dis := fun _ _ _ h => nomatch h
  out := fun _ _ h => nomatch h
  emp := fun _ _ => rfl
  src := sr
  len := by
    show (os.map some ++ List.replicate (N.length - os.length) none).length ≤ (vs.map some ++ List.replicate (N.length - vs.length) none).length
    simp only [List.length_append, List.length_map, List.length_replicate]
    rw [Paired.len a]
    exact Nat.le_refl _
end
theorem no_ow {b : Addr} (h : Ow [] (fun _ => []) b) : False := by
  rcases h with h | ⟨_, h⟩ <;> cases h
theorem ow_S {S : List Addr} {b : Addr} (h : Ow S (fun _ => []) b) : b ∈ S := by
  rcases h with h | ⟨_, h⟩
  · exact h
  · cases h
theorem PostR.resP {K : PySem.W.Frag} {F H F' H' : Hp} {o : O} {s' : Option Src} {v : V} {B : List Addr} (p : PostR K F H [] (fun _ => []) o s' v F' H' B) : ResAt K F H o v F' H' B :=
  ⟨⟨p.step.fr, fun b u e => p.step.keep b u e no_ow, p.same, fun b h => by
    rcases p.step.frz b h with z | z | z
    · exact .inl z
    · exact (no_ow z).elim
    · exact .inr z⟩, p.own, p.nod, fun b hb => ⟨by
    rcases p.step.own b (.inr hb) with z | z
    · exact (no_ow z).elim
    · exact z, (p.new b hb).1, (p.new b hb).2.2⟩⟩
theorem PostR.resS {K : PySem.W.Frag} {F H F' H' : Hp} {S : List Addr} {o : O} {s' : Src} {v : V} {B : List Addr} (p : PostR K F H S (fun _ => []) o (some s') v F' H' B) : ResS K F H S o s' v F' H' B :=
  ⟨p.step.wide fun _ h => ow_S h, p.same, p.src, p.own, p.nod, fun b hb => ⟨by
    rcases p.step.own b (.inr hb) with z | z
    · exact absurd (ow_S z) (p.new b hb).2.1
    · exact z, (p.new b hb).1, (p.new b hb).2.2⟩⟩
theorem PostT.retN {K : PySem.W.Frag} {F H F' H' : Hp} {S : List Addr} {σ σ' : L2.St} {A A' : Nat → List Addr} {st' : St} (p : PostT K F H S σ σ' A st' F' H' A') : PostR K F H S A (.d .none) st'.src .non F' H' [] :=
  ⟨p.step.weak fun b h => h.elim .inl (fun z => nomatch z), p.rel.same, p.rel.src, ⟨rfl, .non⟩, List.nodup_nil, fun _ z => nomatch z⟩

/-- the facts of the text that every function uses -/
structure Base (P : Program) (w : World) (K : PySem.W.Frag) (mg : Str → Option Value) (base : Heap) (Φ : Fs) (j : Nat) : Prop where
  blt : ∀ x ∈ bNames, mg x = none
  pf : ∀ f n φ, Φ.p f = some (n, φ) → ∃ k, k ≤ j ∧ C8.Cal P w K mg base k f (spP K n φ) []
  sf : ∀ f n φ, Φ.s f = some (n, φ) → ∃ k, k ≤ j ∧ C8.Cal P w K mg base k f (spS K n φ) []
section
variable {P : Program} {w : World} {K : PySem.W.Frag} {mg : Str → Option Value} {base : Heap} {Φ : Fs} {j : Nat} {x : Str} {st : Stmt} {f : Addr} {fd : FuncData} {N ps : List Str} {a : Ss}
theorem ctx_of (B : Base P w K mg base Φ j) (S : FnScope N ps (C8.fnScope st)) {cdv : Value} {A : Around} {outer : List Env} {s : Shared} {H : Hp} {E : XK} {rp : Bool} (hg : rp = true → A.guards = some [])
    (hr : Room j (A.deeper (envOfC x (C8.fnScope st) s.heap.objs.size f cdv))) : CtxOk Φ (cxOf C8.CX0 P w K mg base N x (C8.fnScope st) f cdv A outer s H E).nox ⟨N, C8.fnScope st, fun _ => true, rp⟩ j where
  N := rfl
  nd := S.nd
  sc := rfl
  kind := S.kind
  fn := fun _ _ => rfl
  calm := rfl
  xe := rfl
  room := hr
  blt := B.blt
  rp := hg
  pf := B.pf
  sf := B.sf
theorem fn_P (B : Base P w K mg base Φ j) (D : C8.Def K mg x st f fd) (b : Binds K fd ps []) (S : FnScope N ps (C8.fnScope st)) (hc : chkSs ⟨N, C8.fnScope st, fun _ => true, false⟩ a (C8.fnBody st) = true) : C8.Cal P w K mg base (j + 1) x (spP K ps.length (runP Φ N.length a)) [] :=
  C8.cal0 D b .nil S (fun vs H Q E h => h.1) fun cdv A outer s H vs Q E hr hsp => by
    obtain ⟨hl, F, os, r, sm, ar, hφ, k⟩ := hsp
    refine ⟨tSs Φ K a, sndSs a (ctx_of B S (rp := false) (fun z => nomatch z) hr) hc, ?_⟩
    unfold runP at hφ
    split at hφ
    · rename_i o src' he
      cases hφ
      exact ⟨F, [], _, fun _ => [], _, rel_start (N := N) (src := none) sm rfl ar, he, fun v F' H' B q => k _ _ _ _ q.resP⟩
    · rename_i st' he
      cases hφ
      exact ⟨F, [], _, fun _ => [], _, rel_start (N := N) (src := none) sm rfl ar, he, fun σ' F' H' A' q => k _ _ _ _ q.retN.resP⟩
    · cases hφ
theorem fn_S (B : Base P w K mg base Φ j) (D : C8.Def K mg x st f fd) (b : Binds K fd ps []) (S : FnScope N ps (C8.fnScope st)) (hc : chkSs ⟨N, C8.fnScope st, fun _ => true, false⟩ a (C8.fnBody st) = true) : C8.Cal P w K mg base (j + 1) x (spS K ps.length (runS Φ N.length a)) [] :=
  C8.cal0 D b .nil S (fun vs H Q E h => h.1) fun cdv A outer s H vs Q E hr hsp => by
    obtain ⟨hl, F, Sa, src, os, r, src', sm, sr, ar, hφ, k⟩ := hsp
    refine ⟨tSs Φ K a, sndSs a (ctx_of B S (rp := false) (fun z => nomatch z) hr) hc, ?_⟩
    unfold runS at hφ
    split at hφ
    · rename_i o s' he
      cases hφ
      exact ⟨F, Sa, _, fun _ => [], _, rel_start (N := N) (src := some src) sm sr ar, he, fun v F' H' B q => k _ _ _ _ q.resS⟩
    · rename_i st' he
      obtain ⟨s', hs, hφ⟩ := mapE hφ
      cases hφ
      exact ⟨F, Sa, _, fun _ => [], _, rel_start (N := N) (src := some src) sm sr ar, he, fun σ' F' H' A' q => k _ _ _ _ (by
        have z := q.retN
        rw [hs] at z
        exact z.resS)⟩
    · cases hφ
/-- nothing is known of it -/
theorem fn_S0 (D : C8.Def K mg x st f fd) (b : Binds K fd ps []) : C8.Cal P w K mg base j x (spS K ps.length (fun _ _ => none)) [] :=
  ⟨f, fd, ps, [], ⟨fun vs H Q E h => h.1, fun A outer s H args us vs Q E hr he hb hv hs => by
    obtain ⟨_, F, Sa, src, os, r, src', _, _, _, hφ, _⟩ := hs
    cases hφ⟩, D.mgf, D.kp, b, .nil⟩

/-! ### tables of functions -/
def Fs.none : Fs := ⟨fun _ => Option.none, fun _ => Option.none⟩
def Fs.addP (Φ : Fs) (x : Str) (n : Nat) (φ : PFn) : Fs := ⟨fun y => if y = x then some (n, φ) else Φ.p y, Φ.s⟩
def Fs.addS (Φ : Fs) (x : Str) (n : Nat) (φ : SFn) : Fs := ⟨Φ.p, fun y => if y = x then some (n, φ) else Φ.s y⟩
theorem base0 (h : ∀ x ∈ bNames, mg x = Option.none) : Base P w K mg base .none 0 := ⟨h, fun _ _ _ e => (by cases e), fun _ _ _ e => (by cases e)⟩
theorem Base.addP (B : Base P w K mg base Φ j) {n : Nat} {φ : PFn} {k : Nat} (hk : j ≤ k) (c : C8.Cal P w K mg base k x (spP K n φ) []) : Base P w K mg base (Φ.addP x n φ) k where
  blt := B.blt
  pf := fun y m ψ e => by
    have e : (if y = x then some (n, φ) else Φ.p y) = some (m, ψ) := e
    split at e
    · rename_i z
      cases e
      exact ⟨k, Nat.le_refl _, z ▸ c⟩
    · obtain ⟨k', h1, h2⟩ := B.pf y m ψ e
      exact ⟨k', Nat.le_trans h1 hk, h2⟩
  sf := fun y m ψ e => let ⟨k', h1, h2⟩ := B.sf y m ψ e; ⟨k', Nat.le_trans h1 hk, h2⟩
theorem Base.addS (B : Base P w K mg base Φ j) {n : Nat} {φ : SFn} {k : Nat} (hk : j ≤ k) (c : C8.Cal P w K mg base k x (spS K n φ) []) : Base P w K mg base (Φ.addS x n φ) k where
  blt := B.blt
  sf := fun y m ψ e => by
    have e : (if y = x then some (n, φ) else Φ.s y) = some (m, ψ) := e
    split at e
    · rename_i z
      cases e
      exact ⟨k, Nat.le_refl _, z ▸ c⟩
    · obtain ⟨k', h1, h2⟩ := B.sf y m ψ e
      exact ⟨k', Nat.le_trans h1 hk, h2⟩
  pf := fun y m ψ e => let ⟨k', h1, h2⟩ := B.pf y m ψ e; ⟨k', Nat.le_trans h1 hk, h2⟩
end
end Vm


set_option Elab.async false
set_option linter.all false
set_option maxRecDepth 100000
set_option maxHeartbeats 4000000
/-! Vm, part 23: the law's end: the call at the place where no repr is under way. -/
namespace Vm
open PySem PySem.Spec PyProof.Rows L2

/-- what is wanted of the law's call: it gives True -/
def LawAt (P : Program) (w : World) (K : PySem.W.Frag) (mg : Str → Option Value) (base : Heap) (fa : Addr) (fd : FuncData) (x : Str) (n : Nat) : Prop :=
  ∀ (s : Shared) (H : Hp) (a : Addr) (ns : List Int), Env0 P w K mg base callerA [] s H → ns.length ≤ n → (∀ z ∈ ns, Builtin.Int.intBits z ≤ 1048576) → Only H → SqL K H a (ns.map V.int) → BindsTo s fd ⟨[.ref a], []⟩ [(x, .ref a)] →
    codeAny (model P w) callerA (.call (.ref fa) ⟨[.ref a], []⟩) (CR C8.CX0 [] P w H s (fun v _ => v = .bl true) C8.E0) s
/-- a def's body under a given surrounding -/
theorem fn_at {CX : CXT} {P : Program} {w : World} {K : PySem.W.Frag} {mg : Str → Option Value} {base : Heap} {k : Nat} {f : Addr} {name qual : Str} {params : Arguments} {body : List Stmt} {scope : Scope} {dV kV doc pm cdv ct oc : Value} {an od : Option Addr} {osl : Array (Option Value)} {N ps : List Str}
    (lk : K.lookup f = some ⟨oc, od, .func (PySem.W.fnOf name qual params body scope dV kV doc pm an cdv ct), osl⟩) (hcd : PySem.W.codeIn K cdv qual = true) (S : FnScope N ps scope) {A : Around} {outer : List Env} {s : Shared} {H : Hp} {args : PySem.Args} {us : List Value} {vs : List V} {Q : VK} {E : XK}
    (hr : Room (k + 1) A) (e0 : Env0 P w K mg base A outer s H) (hb : BindsTo s (PySem.W.fnOf name qual params body scope dV kV doc pm an cdv ct) args (ps.zip us)) (r : Vals vs us) (hl : vs.length = ps.length)
    (hbody : Room k (A.deeper (envOfC qual scope s.heap.objs.size f cdv)) → ∃ t, PSs (cxOf CX P w K mg base N qual scope f cdv A outer s H E) body t ∧ t { nx := fun _ H' => Q .non H', rt := Q } (start N vs) H) :
    codeAny (model P w) A (.call (.ref f) args) (CR CX outer P w H s Q E) s := by
  have KX : K.In s.heap := e0.mod.kin.keeps fun b o e => (e0.bs b o e).1
  have lim : s.heap.NoLimit := e0.mod.nolimit.keeps fun b o e => (e0.bs b o e).1
  have kinds : ∀ y ∈ ps.zip us, scope.names.lookup y.1 = some .local ∨ (scope.names.lookup y.1 = some .cell ∧ ((cellsFrom (s.heap.objs.size + 1) scope.names []).lookup y.1).isSome = true) := by
    rintro ⟨n, v⟩ hy
    exact (S.par n (List.of_mem_zip hy).1).imp id fun q => ⟨q, PySem.W.cellsFrom_some _ _ _ (.inl q)⟩
  refine codeAny_call_function hr.depth (KX _ _ lk) rfl S.co S.gen rfl (PySem.W.codeRec_of KX hcd) (hb _ _ _ _ ?_)
  refine wpAny_newFunctionEnv_cells S.kind kinds fun env he s1 x => ?_
  subst he
  refine ⟨lim.keeps x.toInCall.keep, codeAny_func ?_⟩
  obtain ⟨t, ht, hq⟩ := hbody (hr.deeper _)
  have I := inv_start (CX := CX) (E := E) S hr.hd e0 hl r x
  refine wpAny_mono (ht.run [] s1 (start N vs) H _ I hq) (fun fl s' hs => ?_) fun e s' hs => hs
  cases fl with
  | ret u => obtain ⟨v, σ', H', J, rv, q⟩ := hs; exact ⟨v, H', J.os, J.bare, J.base, J.hok, rv, q⟩
  | next => obtain ⟨σ', H', J, q⟩ := hs; exact ⟨.non, H', J.os, J.bare, J.base, J.hok, rfl, q⟩
  | brk => exact hs.choose_spec.choose_spec.2.elim
  | cont => exact hs.choose_spec.choose_spec.2.elim
/-- the head: from the law's call to what the row asks -/
theorem call_at {P : Program} {w : World} {K : PySem.W.Frag} {mg mb : Str → Option Value} {n : Nat} {fa a : Addr} {fd : FuncData} {x : Str} {s₁ : Shared} {vs : List Value} {ns : List Int}
    (KX : K.In s₁.heap) (hns : s₁.heap.Ns mainGlobals mg) (hb : s₁.heap.Ns builtinsNs mb) (hbb : ∀ x : Str, x ≠ "__name__" → mb x = bootBuiltins x) (hlim : s₁.heap.NoLimit) (hg : s₁.gens = #[])
    (ha : s₁.heap.get? a = some { cls := .type "list", data := .seq vs.toArray }) (hi : IntsAre vs ns) (hl : ns.length ≤ n) (hn : n ≤ sizeLine) (hbits : ∀ z ∈ ns, Builtin.Int.intBits z ≤ 1048576)
    (F : ∀ base : Heap, K.In base → base.Ns mainGlobals mg → LawAt P w K mg base fa fd x n) (hbind : ∀ (s : Shared) (u : Value), BindsTo s fd ⟨[u], []⟩ [(x, u)]) :
    codeAny (model P w) callerA (.call (.ref fa) ⟨[.ref a], []⟩) (fun r s' => r = .ok (.ret (.bool true)) ∧ OldK s₁.heap s'.heap ∧ s'.os = s₁.os ∧ AllBare s'.gens) s₁ := by
  have rv := vals_ints hi
  have lenV := hi.length
  -- whatever abstract heap, with nothing tracked but the script
  have core : ∀ H : Hp, Only H → SqL K H a (ns.map V.int) → HOk P w H s₁.heap → (∀ b, H b ≠ none → b = a) → (H a ≠ none → K.lookup a = none) →
      codeAny (model P w) callerA (.call (.ref fa) ⟨[.ref a], []⟩) (fun r s' => r = .ok (.ret (.bool true)) ∧ OldK s₁.heap s'.heap ∧ s'.os = s₁.os ∧ AllBare s'.gens) s₁ := by
    intro H hO hS hok hA hK
    have other : ∀ {b : Addr} {o : Obj}, s₁.heap.get? b = some o → (b = a → False) → (hidT s₁.heap H).get? b = some o := fun {b o} e n => hidT_get e (Classical.byContradiction fun z => n (hA b z))
    have nsK : ∀ {b : Addr} {m : Str → Option Value}, s₁.heap.Ns b m → (hidT s₁.heap H).Ns b m := fun {b m} ⟨o, es, ep, e, d, r⟩ => ⟨o, es, ep, other e (fun z => by
      subst z
      rw [ha] at e
      cases e
      cases (show Data.seq vs.toArray _ = Data.dict es ep from d)), d, r⟩
    have hKb : K.In (hidT s₁.heap H) := fun b o e => hidT_get (KX b o e) (Classical.byContradiction fun z => by
      have e' := hA b z
      subst e'
      rw [hK z] at e
      cases e)
    have hM : Mod K mg (hidT s₁.heap H) := ⟨hKb, nsK hns, ⟨mb, nsK hb, hbb⟩, let ⟨mc, h1, h2⟩ := hlim; ⟨mc, nsK h1, h2⟩⟩
    have e0 : Env0 P w K mg (hidT s₁.heap H) callerA [] s₁ H := ⟨rfl, hM, fun b o e => of_hidT e, Nat.le_of_eq (hidT_size _ _), trivial, fun b hb => (by cases hb), hok, .of_eq hg⟩
    refine codeAny_mono (F _ hKb (nsK hns) s₁ H a ns e0 hl hbits hO hS (hbind s₁ (.ref a))) fun r s' h => ?_
    cases r with
    | error e => exact False.elim h
    | ok fl =>
      cases fl with
      | next => exact False.elim h
      | brk => exact False.elim h
      | cont => exact False.elim h
      | ret u =>
        obtain ⟨v, H', os, bare, un, hok', r', rfl⟩ := h
        obtain rfl : u = Value.bool true := r'
        refine ⟨rfl, OldK.of_keep fun b o e => ?_, os, bare⟩
        cases q : H b with
        | none => exact un.keep b o e q (fun z => by cases z) (fun z => by cases z)
        | some u =>
          rcases hO b with z | ⟨ob, xs, z⟩
          · rw [q] at z; cases z
          · obtain ⟨e1, _⟩ := hok b _ z
            obtain ⟨e2, _⟩ := hok' b _ (un.frzs b ob _ z)
            rw [e] at e1
            cases e1
            exact e2
  have hls : ns.length ≤ sizeLine := Nat.le_trans hl hn
  cases hk : K.lookup a with
  | some o =>
    have e := KX a o hk
    rw [ha] at e
    cases e
    exact core (fun _ => none) (fun _ => .inl rfl) (.inr ⟨_, vs.toArray, _, hk, rfl, rfl, rfl, by rw [List.size_toArray, lenV]; exact hls, by simpa using rv⟩) (fun b u z => nomatch (show (none : Option HO) = some u from z)) (fun b z => absurd rfl z) fun z => absurd rfl z
  | none =>
    let o : HO := .frz { cls := .type "list", data := .seq vs.toArray } (.lst (ns.map V.int))
    refine core (fun b => if b = a then some o else none) (fun b => ?_) (.inl (.inr ⟨_, if_pos rfl⟩)) (fun b u z => ?_) (fun b z => Classical.byContradiction fun hb => z (if_neg hb)) fun _ => hk
    · by_cases hb : b = a
      · exact .inr ⟨_, _, if_pos hb⟩
      · exact .inl (if_neg hb)
    · by_cases hb : b = a
      · have z' := (if_pos hb).symm.trans z
        cases z'
        subst hb
        exact ⟨ha, by rw [List.length_map]; exact hls, vs, _, rv, ha⟩
      · exact nomatch (if_neg hb).symm.trans z
/-- the goal that the row's head leaves -/
theorem walk_at {l : PySem.W.OpenLaw} {n : Nat} {q : Program} {loose : List Str} {XP : (Str → Option Value) → Heap → Prop} {YP : World → Heap → Prop} {d : DefRec} {K : Params → PySem.W.Frag} {x : Str}
    (hn : l.most = some n) (hn2 : n ≤ sizeLine) (hdf : d.params.defaults = []) (hY : ∀ (w : World) (h : Heap), YP w h → (K w.params).In h)
    (F : ∀ (w : World) (mg : Str → Option Value) (fa : Addr) (h : Heap), (K w.params).In h → h.Ns mainGlobals mg → mg d.name = some (.ref fa) →
      ∃ fd : FuncData, (∀ (s : Shared) (u : Value), BindsTo s fd ⟨[u], []⟩ [(x, u)]) ∧ ∀ base : Heap, (K w.params).In base → base.Ns mainGlobals mg → LawAt l.prog w (K w.params) mg base fa fd x n) :
    PySem.W.WalkO q loose XP YP l.row.toRowW d [] (fun f vs => PySem.call f vs) := by
  refine Att.attach_callB hn hdf fun w s₀ s₁ mg mb fa o pm cd doc a vs ns G Y ho hd hcd hmg hobj hints hlen hbits hg => ?_
  have KX := hY w _ Y
  obtain ⟨fd, hb, hF⟩ := F w mg fa _ KX G.T.g hmg
  exact call_at KX G.T.g G.T.b G.T.builtins G.T.nolimit hg hobj hints hlen hn2 hbits hF hb
end Vm


set_option Elab.async false
set_option linter.all false
set_option maxRecDepth 100000
set_option maxHeartbeats 4000000
/-! Vm, part 24: the law's source is made. -/
namespace Vm
open PySem PySem.Spec PyProof.Rows L2

def mixF (m z : Int) : Int := (m * 48611 + z * 79 + 43) % 2147483629
def absI (z : Int) : Int := if z < 0 then -z else z
def srcOf (ns : List Int) : Src := ⟨(ns.map absI).reverse, 1, ns.foldl mixF 83, 0⟩
/-- the text of _law_source -/
def srcC (c : Ctx) (body : List Stmt) : Bool :=
  match body with
  | [.Assign [.Name m1 _] (.Constant (.int k0) _ _) _,
     .For (.Name c1 _) (.Name s1 _) [.Assign [.Name m2 _] (.BinOp (.Call (.Name i1 _) [.BinOp (.BinOp (.BinOp (.Name m3 _) .Mult (.Constant (.int k1) _ _) _) .Add (.BinOp (.Name c2 _) .Mult (.Constant (.int k2) _ _) _) _) .Add (.Constant (.int k3) _ _) _] [] _) .Mod (.Constant (.int k4) _ _) _) _] [] _,
     .Return (some (.Dict [some (.Constant (.str d1) _ _), some (.Constant (.str d2) _ _), some (.Constant (.str d3) _ _), some (.Constant (.str d4) _ _)]
       [.Subscript (.ListComp (.Call (.Name a1 _) [.Name c3 _] [] _) [⟨.Name c4 _, .Name s2 _, [], 0⟩] scope _) (.Slice none none (some (.UnaryOp .USub (.Constant (.int 1) _ _) _)) _) _, .Constant (.int k5) _ _, .Name m4 _, .Constant (.int k6) _ _] _)) _] =>
    decide (k0 = 83 ∧ k1 = 48611 ∧ k2 = 79 ∧ k3 = 43 ∧ k4 = 2147483629 ∧ k5 = 1 ∧ k6 = 0) && decide (d1 = Str.ofString "cells" ∧ d2 = Str.ofString "left" ∧ d3 = Str.ofString "mixed" ∧ d4 = Str.ofString "turn") &&
      decide (i1 = Str.ofString "int" ∧ a1 = Str.ofString "abs") && locOk c 1 m1 && locOk c 2 c1 && locOk c 1 m2 && nmOk c 0 s1 && nmOk c 1 m3 && nmOk c 2 c2 && nmOk c 0 s2 && nmOk c 1 m4 && glOk c i1 &&
      blkC c.N c.sc scope [(c4, 2)] && decide (scope.kind = .function) && locOk { c with sc := relS scope c.sc, fn := fun x => scope.names.lookup x == some .cell } 2 c4 && nmOk { c with sc := relS scope c.sc, fn := fun x => scope.names.lookup x == some .cell } 2 c3 &&
      glOk { c with sc := relS scope c.sc, fn := fun x => scope.names.lookup x == some .cell } a1
  | _ => false
def spSrc (K : PySem.W.Frag) : Sp := fun vs H Q _ => ∃ a ns, vs = [.ref a] ∧ SqL K H a (ns.map V.int) ∧ ns.length ≤ 63 ∧ (∀ z ∈ ns, Builtin.Int.intBits z ≤ 1048576) ∧
  ∀ sa ca H', Same H H' → H sa = none → H ca = none → SrcAt H' sa ca (srcOf ns) → Q (.ref sa) H'
theorem sqL_same {K : PySem.W.Frag} {H H' : Hp} {a : Addr} {xs : List V} (h : SqL K H a xs) (e : Same H H') : SqL K H' a xs := by
  rcases h with (h | ⟨o, h⟩) | h
  · exact .inl (.inl (e _ _ h))
  · exact .inl (.inr ⟨o, e _ _ h⟩)
  · exact .inr h
theorem upd_sameH {H : Hp} {p : Addr} {u : HO} (h : H p = none) : Same H (upd H p u) := fun b o e => by rw [upd_ne (ne_of_none e h)]; exact e
theorem mix_rng : ∀ (ns : List Int) (m : Int), 0 ≤ m ∧ m < 2147483648 → 0 ≤ ns.foldl mixF m ∧ ns.foldl mixF m < 2147483648
  | [], m, h => h
  | z :: ns, m, h => mix_rng ns _ (by
    unfold mixF
    have a := Int.emod_nonneg (m * 48611 + z * 79 + 43) (show (2147483629 : Int) ≠ 0 by decide)
    have b := Int.emod_lt_of_pos (m * 48611 + z * 79 + 43) (show (0 : Int) < 2147483629 by decide)
    omega)
theorem take_snoc {α : Type} {l : List α} {i : Nat} {x : α} (h : l[i]? = some x) : l.take (i + 1) = l.take i ++ [x] := by
  rw [List.take_add_one, h]
  rfl
theorem merge_src {ca : Addr} {s : Src} : mergeK [] (srcL ca s) = srcL ca s := by
  simp [mergeK, srcL, L2.putK, k12, k13, k14, k23, k24, k34, k12.symm, k13.symm, k14.symm, k23.symm, k24.symm, k34.symm]
theorem src_body {Φ : Fs} {X : Cx} {c : Ctx} {j : Nat} {body : List Stmt} (ok : CtxOk Φ X c j) (h : srcC c body = true) :
    ∃ t, PSs X body t ∧ ∀ (D : Ends) (H : Hp) (σ : L2.St) (a : Addr) (ns : List Int), σ.length = 3 → σ[0]? = some (some (.ref a)) → SqL X.K H a (ns.map V.int) → ns.length ≤ 63 → (∀ z ∈ ns, Builtin.Int.intBits z ≤ 1048576) →
      (∀ sa ca H', Same H H' → H sa = none → H ca = none → SrcAt H' sa ca (srcOf ns) → D.rt (.ref sa) H') → t D σ H := by
  unfold srcC at h
  split at h
  case h_2 => cases h
  simp only [Bool.and_eq_true, decide_eq_true_eq] at h
  obtain ⟨⟨⟨⟨⟨⟨⟨⟨⟨⟨⟨⟨⟨⟨⟨⟨⟨rfl, rfl, rfl, rfl, rfl, rfl, rfl⟩, rfl, rfl, rfl, rfl⟩, rfl, rfl⟩, w1⟩, w2⟩, w3⟩, w4⟩, w5⟩, w6⟩, w7⟩, w8⟩, w9⟩, v1⟩, v2⟩, v3⟩, v4⟩, v5⟩ := h
  obtain ⟨a1, a2, a3⟩ := loc_of ok w1
  obtain ⟨b1, b2, b3⟩ := loc_of ok w2
  obtain ⟨c1, c2, c3⟩ := loc_of ok w3
  obtain ⟨d1, d2, d3, d4⟩ := nm_of ok w4
  obtain ⟨e1, e2, e3, e4⟩ := nm_of ok w5
  obtain ⟨f1, f2, f3, f4⟩ := nm_of ok w6
  obtain ⟨g1, g2, g3, g4⟩ := nm_of ok w7
  obtain ⟨h1, h2, h3, h4⟩ := nm_of ok w8
  obtain ⟨i1, i2, i3⟩ := gl_of ok w9
  have hok := nd_of ok
  rename_i c4 _ _ _ scope _ _ _ _ _ _ _ _ _ _ _ _ _ _
  have blk : BlkOk X.N X.env.scope scope [(c4, 2)] := by rw [ok.N, ok.sc]; exact blkOk_by v1
  refine ⟨_, pss_cons (ps_set hok a1 a2 pe_int rfl a3) (pss_cons (ps_for (by rw [ok.xe]; exact PassesOwn.never) ok.calm (pi_list (pe_var d1 d2 d3 d4)) (pg_name hok b1 b2 b3)
    (pss_one (ps_set hok c1 c2 (pe_op op_mod (pe_callTy call_int1 i1 (ok.blt _ (by decide)) boot_int (pa_cons (pe_op op_add (pe_op op_add (pe_op op_mulX (pe_var e1 e2 e3 e4) pe_int) (pe_op op_mulX (pe_var f1 f2 f3 f4) pe_int)) pe_int) pa_nil rfl) i3 i2 rfl rfl) pe_int) rfl c3)) (fun _ => rfl))
    (pss_one (ps_ret (pe_disp (pps_cons pe_str (pe_revL (pe_lc (own := [(c4, 2)]) ok.calm hok (pi_list (pe_var g1 g2 g3 g4)) blk
      (fun s H C cl fp => let o := blk_of ok v2 s H C cl fp; let q := loc_of o v3; pg_name hok q.1 q.2.1 q.2.2) (fun s H C cl fp => pts_nil)
      (fun s H C cl fp => let o := blk_of ok v2 s H C cl fp; let q := nm_of o v4; let r := gl_of o v5; pe_callB call_abs r.1 (o.blt _ (by decide)) (by decide +kernel) (pa_cons (pe_var q.1 q.2.1 q.2.2.1 q.2.2.2) pa_nil rfl) r.2.2 r.2.1 rfl rfl) (fun _ => rfl)))
      (pps_cons pe_str pe_int (pps_cons pe_str (pe_var h1 h2 h3 h4) (pps_cons pe_str pe_int pps_nil)))) rfl rfl (by simp) (by simp))))), ?_⟩
  intro D H σ a ns hl h0 hq hn hb k
  have s1 : (σ.set 1 (some (V.int 83)))[0]? = some (some (V.ref a)) := by rw [List.getElem?_set_ne (by decide)]; exact h0
  refine ⟨_, s1, a, rfl, ⟨_, hq⟩, for_list (K := X.K) (a := a) (xs := ns.map V.int) (fun i σ' H' => H' = H ∧ σ'.length = 3 ∧ σ'[0]? = some (some (V.ref a)) ∧ σ'[1]? = some (some (V.int ((ns.take i).foldl mixF 83)))) ?_ ?_ ?_ ?_⟩
  · exact ⟨rfl, by rw [List.length_set]; exact hl, s1, by rw [List.getElem?_set_self (by rw [hl]; decide)]; rfl⟩
  · rintro i σ' H' _ ⟨rfl, _⟩
    exact hq
  · rintro i x σ' H' hx ⟨rfl, l3, p0, p1⟩
    rw [List.getElem?_map] at hx
    cases hz : ns[i]? with
    | none => rw [hz] at hx; cases hx
    | some z =>
      rw [hz] at hx
      cases hx
      have mr := mix_rng (ns.take i) 83 (by decide)
      have zb := hb z (List.mem_of_getElem? hz)
      have q0 : (σ'.set 2 (some (V.int z)))[0]? = some (some (V.ref a)) := by rw [List.getElem?_set_ne (by decide)]; exact p0
      have q1 : (σ'.set 2 (some (V.int z)))[1]? = some (some (V.int ((ns.take i).foldl mixF 83))) := by rw [List.getElem?_set_ne (by decide)]; exact p1
      have q2 : (σ'.set 2 (some (V.int z)))[2]? = some (some (V.int z)) := by rw [List.getElem?_set_self (by rw [l3]; decide)]
      have m1 : CMulX ((ns.take i).foldl mixF 83) 48611 := mulx_ok (a := 31) (b := 16) (by omega) (by decide) (by decide)
      have m2 : CMulX z 79 := by
        unfold CMulX
        have : Builtin.Int.intBits 79 ≤ 7 := by decide
        omega
      refine ⟨_, q1, _, _, rfl, rfl, m1, _, q2, _, _, rfl, rfl, m2, _, _, rfl, rfl, _, _, rfl, rfl, .inl ⟨_, rfl, _, _, rfl, rfl, (show (0 : Int) < 2147483629 by decide), rfl, ?_, ?_, ?_⟩⟩
      · rw [List.length_set, List.length_set]; exact l3
      · rw [List.getElem?_set_ne (by decide)]; exact q0
      · rw [List.getElem?_set_self (by rw [List.length_set, l3]; decide), take_snoc hz, List.foldl_append]
        rfl
  · rintro σ' H' ⟨rfl, l3, p0, p1⟩
    rw [List.length_map, List.take_length] at p1
    intro p hp
    generalize hH0 : upd H' p (.dK []) = H0
    have s0 : Same H' H0 := by rw [← hH0]; exact upd_sameH hp
    have hp0 : H0 p = some (.dK []) := by rw [← hH0]; exact upd_same
    have hq1 : SqL X.K H0 a (ns.map V.int) := sqL_same hq s0
    refine ⟨_, p0, a, rfl, ⟨_, hq1⟩, fun Dl hD => lc_list (K := X.K) (a := a) (xs := ns.map V.int) (fun i H2 => H2 Dl = some (.lst (((ns.take i).map absI).map V.int)) ∧ ∀ b, b ≠ Dl → H2 b = H0 b) ?_ ?_ ?_ ?_⟩
    · exact ⟨upd_same, fun b hb => upd_ne hb⟩
    · rintro i H2 _ ⟨_, e2⟩
      exact sqL_same hq1 fun b o e => by rw [e2 b (ne_of_none e hD)]; exact e
    · rintro i x H2 hx ⟨e1, e2⟩
      rw [List.getElem?_map] at hx
      cases hz : ns[i]? with
      | none => rw [hz] at hx; cases hx
      | some z =>
        rw [hz] at hx
        cases hx
        have hi : i < ns.length := (List.getElem?_eq_some_iff.mp hz).1
        refine ⟨by simp [wipe], ?_⟩
        dsimp only [tYes]
        rw [if_pos rfl]
        refine ⟨V.int z, ?_, z, rfl, _, e1, ?_, ?_, fun b hb => ?_⟩
        · show ((wipe σ' [2]).set 2 (some (V.int z)))[2]? = _
          rw [List.getElem?_set_self (by rw [wipe_length, l3]; decide)]
        · rw [List.length_map, List.length_map, List.length_take, sizeLine_eq]
          omega
        · rw [upd_same, take_snoc hz, List.map_append, List.map_append]
          rfl
        · rw [upd_ne hb]
          exact e2 b hb
    · rintro H2 ⟨e1, e2⟩
      rw [List.length_map, List.take_length] at e1
      refine ⟨Dl, _, rfl, .of e1, fun q hq2 => ?_⟩
      have npD : p ≠ Dl := ne_of_none hp0 hD
      have hp2 : H2 p = some (.dK []) := by rw [e2 p npD]; exact hp0
      have npq : p ≠ q := ne_of_none hp2 hq2
      refine ⟨_, p1, ?_, srcL q (srcOf ns), rfl, (show 4 ≤ 15 by decide), ?_⟩
      · rw [upd_ne npq]
        exact hp2
      · rw [merge_src]
        have s2 : Same H' H2 := fun b o e => by rw [e2 b (ne_of_none (s0 _ _ e) hD)]; exact s0 _ _ e
        refine k p q _ (fun b o e => ?_) hp (s2.free hq2) ⟨upd_same, ?_⟩
        · rw [upd_ne (ne_of_none e hp), upd_ne (ne_of_none (s2 _ _ e) hq2)]
          exact s2 _ _ e
        · rw [upd_ne npq.symm, upd_same]
          show some (HO.lst _) = some (HO.lst ((ns.map absI).reverse.map V.int))
          rw [List.map_reverse]
/-- _law_source keeps its promise -/
theorem fn_src {P : Program} {w : World} {K : PySem.W.Frag} {mg : Str → Option Value} {base : Heap} {Φ : Fs} {j : Nat} {x : Str} {st : Stmt} {f : Addr} {fd : FuncData} {N ps : List Str} (B : Base P w K mg base Φ j) (D : C8.Def K mg x st f fd) (b : Binds K fd ps []) (S : FnScope N ps (C8.fnScope st))
    (hl : ps.length = 1) (hN : N.length = 3) (hc : srcC ⟨N, C8.fnScope st, fun _ => true, false⟩ (C8.fnBody st) = true) : C8.Cal P w K mg base (j + 1) x (spSrc K) [] :=
  C8.cal0 D b .nil S (fun vs H Q E h => by obtain ⟨a, ns, rfl, _⟩ := h; rw [hl]; rfl) fun cdv A outer s H vs Q E hr hsp => by
    obtain ⟨a, ns, rfl, hq, hn, hb, k⟩ := hsp
    obtain ⟨t, ht, hk⟩ := src_body (ctx_of B S (rp := false) (fun z => nomatch z) hr) hc
    refine ⟨t, ht, hk _ H _ a ns ?_ rfl hq hn hb k⟩
    show ([some (V.ref a)] ++ List.replicate (N.length - 1) none).length = 3
    rw [hN]
    rfl
end Vm


set_option Elab.async false
set_option linter.all false
set_option maxRecDepth 100000
set_option maxHeartbeats 4000000
/-! Vm, part 25: the chain of the defs; the law's promise from the evaluator's answer. -/
namespace Vm
open PySem PySem.Spec PyProof.Rows L2

/-- a def of the module as it stands behind the top -/
structure DefAt (K : PySem.W.Frag) (x : Str) (st : Stmt) : Prop where
  ex : ∃ (f : Addr) (oc : Value) (od : Option Addr) (kV doc pm : Value) (an : Option Addr) (cdv ct : Value) (osl : Array (Option Value)), PySem.W.nsIn K mainGlobals x = some (some (.ref f)) ∧
    K.lookup f = some ⟨oc, od, .func (PySem.W.fnOf x x (C8.fnArgs st) (C8.fnBody st) (C8.fnScope st) .none kV doc pm an cdv ct), osl⟩ ∧ PySem.W.codeIn K cdv x = true ∧ PySem.W.keepIn K (.ref f) = true
theorem defAt_mk {K : PySem.W.Frag} {x : Str} {st : Stmt} {f : Addr} {oc : Value} {od : Option Addr} {kV doc pm : Value} {an : Option Addr} {cdv ct : Value} {osl : Array (Option Value)} (a : PySem.W.nsIn K mainGlobals x = some (some (.ref f)))
    (l : K.lookup f = some ⟨oc, od, .func (PySem.W.fnOf x x (C8.fnArgs st) (C8.fnBody st) (C8.fnScope st) .none kV doc pm an cdv ct), osl⟩) (c : PySem.W.codeIn K cdv x = true) (k : PySem.W.keepIn K (.ref f) = true) : DefAt K x st := ⟨f, oc, od, kV, doc, pm, an, cdv, ct, osl, a, l, c, k⟩
/-- every parameter is given -/
def BindOk (x : Str) (st : Stmt) (ps : List Str) : Prop := ∀ (kV doc pm : Value) (an : Option Addr) (cdv ct : Value) (us : List Value), us.length = ps.length → bindArgs (PySem.W.fnOf x x (C8.fnArgs st) (C8.fnBody st) (C8.fnScope st) .none kV doc pm an cdv ct) ⟨us, []⟩ = pure (ps.zip us)
theorem DefAt.use {K : PySem.W.Frag} {x : Str} {st : Stmt} {ps : List Str} {h : Heap} {mg : Str → Option Value} (d : DefAt K x st) (KX : K.In h) (G : h.Ns mainGlobals mg) (hb : BindOk x st ps) : ∃ f fd, C8.Def K mg x st f fd ∧ Binds K fd ps [] := by
  obtain ⟨f, oc, od, kV, doc, pm, an, cdv, ct, osl, a, l, c, k⟩ := d.ex
  have F : C8.Fun K x x st f (PySem.W.fnOf x x (C8.fnArgs st) (C8.fnBody st) (C8.fnScope st) .none kV doc pm an cdv ct) := ⟨oc, od, .none, kV, doc, pm, an, cdv, ct, osl, rfl, l, c⟩
  exact ⟨f, _, ⟨F, PySem.W.mg_of KX G a, k⟩, F.binds rfl hb⟩
section
variable {P : Program} {w : World} {K : PySem.W.Frag} {mg : Str → Option Value} {base h : Heap} {Φ : Fs} {j : Nat} {x : Str} {st : Stmt} {N ps : List Str} {a : Ss}
theorem Base.stepP (B : Base P w K mg base Φ j) (d : DefAt K x st) (KX : K.In h) (G : h.Ns mainGlobals mg) (hb : BindOk x st ps) (hs : C8.scC N ps (C8.fnScope st) = true) (hc : chkSs ⟨N, C8.fnScope st, fun _ => true, false⟩ a (C8.fnBody st) = true) :
    Base P w K mg base (Φ.addP x ps.length (runP Φ N.length a)) (j + 1) := by
  obtain ⟨f, fd, D, b⟩ := d.use KX G hb
  exact B.addP (Nat.le_succ _) (fn_P B D b (C8.fnScope_by hs) hc)
theorem Base.stepS (B : Base P w K mg base Φ j) (d : DefAt K x st) (KX : K.In h) (G : h.Ns mainGlobals mg) (hb : BindOk x st ps) (hs : C8.scC N ps (C8.fnScope st) = true) (hc : chkSs ⟨N, C8.fnScope st, fun _ => true, false⟩ a (C8.fnBody st) = true) :
    Base P w K mg base (Φ.addS x ps.length (runS Φ N.length a)) (j + 1) := by
  obtain ⟨f, fd, D, b⟩ := d.use KX G hb
  exact B.addS (Nat.le_succ _) (fn_S B D b (C8.fnScope_by hs) hc)
/-- a def that calls itself, to a depth -/
def recS (Φ : Fs) (x : Str) (n m : Nat) (a : Ss) : Nat → SFn
  | 0 => fun _ _ => none
  | d + 1 => runS (Φ.addS x n (recS Φ x n m a d)) m a
theorem Base.stepR (B : Base P w K mg base Φ j) (d : DefAt K x st) (KX : K.In h) (G : h.Ns mainGlobals mg) (hb : BindOk x st ps) (hs : C8.scC N ps (C8.fnScope st) = true) (hc : chkSs ⟨N, C8.fnScope st, fun _ => true, false⟩ a (C8.fnBody st) = true) :
    ∀ m : Nat, Base P w K mg base (Φ.addS x ps.length (recS Φ x ps.length N.length a m)) (j + m)
  | 0 => by
    obtain ⟨f, fd, D, b⟩ := d.use KX G hb
    exact B.addS (Nat.le_refl _) (fn_S0 D b)
  | m + 1 => by
    obtain ⟨f, fd, D, b⟩ := d.use KX G hb
    exact B.addS (by omega) (fn_S (Base.stepR B d KX G hb hs hc m) D b (C8.fnScope_by hs) hc)
theorem cal_src (B : Base P w K mg base Φ j) (d : DefAt K x st) (KX : K.In h) (G : h.Ns mainGlobals mg) (hb : BindOk x st ps) (hs : C8.scC N ps (C8.fnScope st) = true) (hl : ps.length = 1) (hN : N.length = 3) (hc : srcC ⟨N, C8.fnScope st, fun _ => true, false⟩ (C8.fnBody st) = true) :
    C8.Cal P w K mg base (j + 1) x (spSrc K) [] := by
  obtain ⟨f, fd, D, b⟩ := d.use KX G hb
  exact fn_src B D b (C8.fnScope_by hs) hl hN hc

/-! ### the law -/
/-- the law's text: its first statement, then what the evaluator knows -/
def lawC (c : Ctx) (a : Ss) (body : List Stmt) : Bool :=
  match body with
  | .Assign [.Name s1 _] (.Call (.Name f _) [.Name s2 _] [] _) _ :: rest => locOk c 1 s1 && decide (f = Str.ofString "_law_source") && glOk c f && nmOk c 0 s2 && chkSs c a rest
  | _ => false
def lawSt (n : Nat) (ns : List Int) : St := ⟨none :: some .src :: List.replicate (n - 2) none, some (srcOf ns)⟩
/-- the evaluator says True at every script -/
def SaysTrue (Φ : Fs) (n : Nat) (a : Ss) : Prop := ∀ ns : List Int, ns.length ≤ 63 → (∀ z ∈ ns, Builtin.Int.intBits z ≤ 1048576) → ∃ s', evSs Φ a (lawSt n ns) = some (.ret (.d (.bool true)) s')
theorem law_ps {X : Cx} {c : Ctx} {body : List Stmt} {ks : Nat} (ok : CtxOk Φ X c j) (h : lawC c a body = true) (hs : C8.Cal X.prog X.w X.K X.mg X.base ks (Str.ofString "_law_source") (spSrc X.K) []) (hk : ks ≤ j) (hT : SaysTrue Φ c.N.length a) (hn : 2 ≤ c.N.length) :
    ∃ t, PSs X body t ∧ ∀ (D : Ends) (H : Hp) (σ : L2.St) (p : Addr) (ns : List Int), σ.length = c.N.length → σ[0]? = some (some (.ref p)) → SqL X.K H p (ns.map V.int) → ns.length ≤ 63 → (∀ z ∈ ns, Builtin.Int.intBits z ≤ 1048576) → (∀ H', D.rt (.bl true) H') → t D σ H := by
  unfold lawC at h
  split at h
  case h_2 => cases h
  simp only [Bool.and_eq_true, decide_eq_true_eq] at h
  obtain ⟨⟨⟨⟨w1, rfl⟩, w3⟩, w4⟩, w5⟩ := h
  obtain ⟨a1, a2, a3⟩ := loc_of ok w1
  obtain ⟨i1, i2, i3⟩ := gl_of ok w3
  obtain ⟨d1, d2, d3, d4⟩ := nm_of ok w4
  refine ⟨_, pss_cons (ps_set (nd_of ok) a1 a2 (C8.pe_c hs ok.room hk i1 (pa_cons (pe_var d1 d2 d3 d4) pa_nil rfl) i2 rfl rfl) rfl a3) (sndSs a ok w5), ?_⟩
  intro D H σ p ns hl h0 hq hns hb k
  obtain ⟨s', he⟩ := hT ns hns hb
  refine ⟨_, h0, p, ns, rfl, hq, hns, hb, fun sa ca H' sm hsa hca sat => ⟨fun _ => none, [sa, ca], lawSt c.N.length ns, fun _ => [], _, ?_, he, fun v F' H2 B q => ?_⟩⟩
  · have lS : (lawSt c.N.length ns).ρ.length = c.N.length := by
      show (none :: some O.src :: List.replicate (c.N.length - 2) none).length = _
      simp only [List.length_cons, List.length_replicate]
      omega
    have at1 : ∀ {i : Nat} {o : O}, (lawSt c.N.length ns).ρ[i]? = some (some o) → i = 1 ∧ o = .src := fun {i o} e => by
      have e : (none :: some O.src :: List.replicate (c.N.length - 2) none)[i]? = some (some o) := e
      match i, e with
      | 0, e => cases e
      | 1, e => cases e; exact ⟨rfl, rfl⟩
      | i + 2, e =>
        rw [List.getElem?_cons_succ, List.getElem?_cons_succ, List.getElem?_replicate] at e
        split at e <;> cases e
    exact { same := fun b o e => nomatch e
            slots := fun i o e => by
              obtain ⟨rfl, rfl⟩ := at1 e
              exact ⟨.ref sa, by rw [List.getElem?_set_self (by omega)], rfl, sa, ca, rfl, rfl⟩
            nobor := fun i q e => by obtain ⟨_, z⟩ := at1 e; cases z
            nod := fun _ => List.nodup_nil
            dis := fun _ _ _ z => nomatch z
            out := fun _ _ z => nomatch z
            emp := fun _ _ => rfl
            src := ⟨sa, ca, rfl, rfl, rfl, sat⟩
            len := by rw [lS, List.length_set, hl]; exact Nat.le_refl _ }
  · obtain ⟨_, d⟩ := (show _ ∧ Den X.K F' v (.bool true) from q.own)
    cases d
    exact k H2
theorem law_at (d : DefAt K x st) (KX : K.In h) (G : h.Ns mainGlobals mg) {y : Str} (hb : BindOk x st [y]) (hs : C8.scC N [y] (C8.fnScope st) = true)
    (hc : lawC ⟨N, C8.fnScope st, fun _ => true, true⟩ a (C8.fnBody st) = true) (hT : SaysTrue Φ N.length a) (hn : 2 ≤ N.length) (hr : Room (j + 1) callerA) {fa : Addr} (hfa : mg x = some (.ref fa)) :
    ∃ fd : FuncData, (∀ (s : Shared) (u : Value), BindsTo s fd ⟨[u], []⟩ [(y, u)]) ∧ ∀ base : Heap, Base P w K mg base Φ j → (∃ ks, ks ≤ j ∧ C8.Cal P w K mg base ks (Str.ofString "_law_source") (spSrc K) []) → LawAt P w K mg base fa fd y 63 := by
  obtain ⟨f, oc, od, kV, doc, pm, an, cdv, ct, osl, a1, l, c, k⟩ := d.ex
  have ef : Value.ref f = Value.ref fa := Option.some.inj ((PySem.W.mg_of KX G a1).symm.trans hfa)
  cases ef
  refine ⟨_, fun s u => .of_eq (hb kV doc pm an cdv ct [u] rfl), fun base B hcs s H p ns e0 hns hbits hO hq hbd => ?_⟩
  obtain ⟨ks, hk, hcs⟩ := hcs
  have S := C8.fnScope_by hs
  refine fn_at (k := j) (N := N) (ps := [y]) (us := [.ref p]) (vs := [V.ref p]) l c S hr e0 hbd (.cons rfl .nil) rfl fun hroom => ?_
  obtain ⟨t, ht, hkt⟩ := law_ps (ctx_of B S (rp := true) (A := callerA) (outer := []) (s := s) (H := H) (E := C8.E0) (cdv := cdv) (x := x) (f := fa) (fun _ => rfl) hroom) hc hcs hk hT hn
  refine ⟨t, ht.nox, hkt _ H _ p ns ?_ rfl hq hns hbits fun _ => rfl⟩
  show ([some (V.ref p)] ++ List.replicate (N.length - 1) none).length = N.length
  simp only [List.length_append, List.length_replicate, List.length_cons, List.length_nil]
  omega
end
/-- .. as the rows ask it -/
theorem walk {l : PySem.W.OpenLaw} {q : Program} {loose : List Str} {XP : (Str → Option Value) → Heap → Prop} {YP : World → Heap → Prop} {d : DefRec} {K : Params → PySem.W.Frag} (hn : l.most = some 63) (hdf : d.params.defaults = []) (hY : ∀ (w : World) (h : Heap), YP w h → (K w.params).In h)
    (F : ∀ (w : World) (mg : Str → Option Value) (fa : Addr) (h : Heap), (K w.params).In h → h.Ns mainGlobals mg → mg d.name = some (.ref fa) →
      ∃ fd : FuncData, (∀ (s : Shared) (u : Value), BindsTo s fd ⟨[u], []⟩ [("script", u)]) ∧ ∀ base : Heap, (K w.params).In base → base.Ns mainGlobals mg → LawAt l.prog w (K w.params) mg base fa fd "script" 63) :
    PySem.W.WalkO q loose XP YP l.row.toRowW d [] (fun f vs => PySem.call f vs) := walk_at (x := "script") hn (by rw [sizeLine_eq]; decide) hdf hY F
end Vm


set_option Elab.async false
set_option linter.all false
set_option maxRecDepth 100000
set_option maxHeartbeats 4000000
/-! Vm, part 26: plain facts about the evaluator's operations. -/
namespace Vm
open PySem

theorem cmpOk_int (i j : Int) : cmpOk (.int i) (.int j) = true := by
  unfold cmpOk
  rw [show PySem.W.alike (PyData.int i) (PyData.int j) = true from rfl, show (PyData.int i).depth = 0 from rfl]
  rfl
theorem lt_int (i j : Int) : PySem.W.dataLt (.int i) (.int j) = decide (i < j) := PySem.W.dataLt_int i j
@[simp] theorem cmp_lt (i j : Int) : cmpSem .lt (.d (.int i)) (.d (.int j)) = some (decide (i < j)) := by
  show (if cmpOk (.int i) (.int j) = true then some (PySem.W.dataLt (.int i) (.int j)) else none) = _
  rw [if_pos (cmpOk_int i j), lt_int]
@[simp] theorem cmp_gt (i j : Int) : cmpSem .gt (.d (.int i)) (.d (.int j)) = some (decide (j < i)) := by
  show (if cmpOk (.int i) (.int j) = true then some (PySem.W.dataLt (.int j) (.int i)) else none) = _
  rw [if_pos (cmpOk_int i j), lt_int]
@[simp] theorem cmp_le (i j : Int) : cmpSem .le (.d (.int i)) (.d (.int j)) = some (!decide (j < i)) := by
  show (if cmpOk (.int i) (.int j) = true then some (!PySem.W.dataLt (.int j) (.int i)) else none) = _
  rw [if_pos (cmpOk_int i j), lt_int]
@[simp] theorem cmp_ge (i j : Int) : cmpSem .ge (.d (.int i)) (.d (.int j)) = some (!decide (i < j)) := by
  show (if cmpOk (.int i) (.int j) = true then some (!PySem.W.dataLt (.int i) (.int j)) else none) = _
  rw [if_pos (cmpOk_int i j), lt_int]
theorem shaped_int (i : Int) : SeqAt.shaped (.int i) = true := by rfl
@[simp] theorem cmp_eqI (i j : Int) : cmpSem .eq (.d (.int i)) (.d (.int j)) = some (decide (i = j)) := by
  show eqD (.int i) (.int j) = _
  unfold eqD
  rw [shaped_int, shaped_int]
  rfl
@[simp] theorem cmp_neI (i j : Int) : cmpSem .ne (.d (.int i)) (.d (.int j)) = some (!decide (i = j)) := by
  show (eqD (.int i) (.int j)).map (!·) = _
  unfold eqD
  rw [shaped_int, shaped_int]
  rfl
@[simp] theorem bin_add (i j : Int) : binSem .add (.d (.int i)) (.d (.int j)) = some (.d (.int (i + j))) := rfl
@[simp] theorem bin_sub (i j : Int) : binSem .sub (.d (.int i)) (.d (.int j)) = some (.d (.int (i - j))) := rfl
theorem bin_mulS {i j : Int} (h : i.natAbs < 2 ^ 64 ∨ j.natAbs < 2 ^ 64) : binSem .mul (.d (.int i)) (.d (.int j)) = some (.d (.int (i * j))) := by
  show (if _ then _ else _) = _
  rw [if_pos (h.imp id .inl)]
theorem bin_fdiv {i j : Int} (h : 0 < j) (h2 : j.natAbs.log2 < 9000) : binSem .fdiv (.d (.int i)) (.d (.int j)) = some (.d (.int (i / j))) := by
  show (if _ then _ else _) = _
  rw [if_pos ⟨h, h2⟩]
theorem bin_fmod {i j : Int} (h : 0 < j) : binSem .fmod (.d (.int i)) (.d (.int j)) = some (.d (.int (i % j))) := by
  show (if _ then _ else _) = _
  rw [if_pos h]
@[simp] theorem vw_d (st : St) (x : PyData) : vw st (.d x) = some (.d x) := rfl
@[simp] theorem vw_pt (st : St) (x : List PyData) : vw st (.pt x) = some (.d (.tuple x)) := rfl
@[simp] theorem vw_lst (st : St) (x : List PyData) : vw st (.lst x) = some (.d (.list x)) := rfl
@[simp] theorem tru_b (b : Bool) : truSem (.d (.bool b)) = some b := rfl
end Vm


set_option Elab.async false
set_option linter.all false
set_option maxRecDepth 100000
set_option maxHeartbeats 4000000
/-! Vm, part 27: rules by which the evaluator is stepped through: what holds of its answer. -/
namespace Vm
open PySem

/-- x answers, and Q holds of the answer -/
abbrev Wr {α : Type} (_ : α → Prop) : Type := Option α
/-- .. : what is to hold is not looked into by simp -/
def Ex {α : Type} (Q : α → Prop) (x : Wr Q) : Prop := ∃ a, x = some a ∧ Q a
/-- the same, looked into -/
def Ey {α : Type} (x : Option α) (Q : α → Prop) : Prop := ∃ a, x = some a ∧ Q a
theorem ex_ey {α : Type} (x : Option α) (Q : α → Prop) : Ex (x := x) Q = Ey x Q := rfl
section
variable {α β : Type}
theorem ex_some (a : α) (Q : α → Prop) : Ex (x := some a) Q = Q a := by
  refine propext ⟨fun h => ?_, fun h => ⟨a, rfl, h⟩⟩
  obtain ⟨b, e, h⟩ := h
  cases e
  exact h
theorem ex_none (Q : α → Prop) : Ex (x := none) Q = False := propext ⟨fun h => (by obtain ⟨_, e, _⟩ := h; cases e), False.elim⟩
theorem ex_bind (x : Option α) (f : α → Option β) (Q : β → Prop) : Ex (x := x.bind f) Q = Ex (x := x) fun a => Ex (x := f a) Q := by
  cases x with
  | none => rw [Option.bind_none, ex_none, ex_none]
  | some a => rw [Option.bind_some, ex_some]
theorem ex_map (x : Option α) (f : α → β) (Q : β → Prop) : Ex (x := x.map f) Q = Ex (x := x) fun a => Q (f a) := by
  cases x with
  | none => rw [Option.map_none, ex_none, ex_none]
  | some a => rw [Option.map_some, ex_some, ex_some]
theorem ex_ite (c : Prop) [Decidable c] (x y : Option α) (Q : α → Prop) : Ex (x := if c then x else y) Q = ((c → Ex (x := x) Q) ∧ (¬ c → Ex (x := y) Q)) := by
  by_cases h : c
  · rw [if_pos h]; exact propext ⟨fun z => ⟨fun _ => z, fun n => absurd h n⟩, fun z => z.1 h⟩
  · rw [if_neg h]; exact propext ⟨fun z => ⟨fun n => absurd n h, fun _ => z⟩, fun z => z.2 h⟩
theorem ex_iteN (c : Prop) [Decidable c] (x : Option α) (Q : α → Prop) : Ex (x := if c then x else none) Q = (c ∧ Ex (x := x) Q) := by
  rw [ex_ite, ex_none]
  exact propext ⟨fun ⟨a, b⟩ => let d : c := Classical.byContradiction b; ⟨d, a d⟩, fun ⟨a, b⟩ => ⟨fun _ => b, fun n => n a⟩⟩
theorem ey_some (a : α) (Q : α → Prop) : Ey (some a) Q = Q a := ex_some a Q
theorem ey_none (Q : α → Prop) : Ey none Q = False := ex_none Q
theorem ey_bind (x : Option α) (f : α → Option β) (Q : β → Prop) : Ey (x.bind f) Q = Ey x fun a => Ey (f a) Q := ex_bind x f Q
theorem ey_map (x : Option α) (f : α → β) (Q : β → Prop) : Ey (x.map f) Q = Ey x fun a => Q (f a) := ex_map x f Q
theorem ey_iteN (c : Prop) [Decidable c] (x : Option α) (Q : α → Prop) : Ey (if c then x else none) Q = (c ∧ Ey x Q) := ex_iteN c x Q
theorem Ex.mono {x : Option α} {P Q : α → Prop} (h : Ex (x := x) P) (k : ∀ a, P a → Q a) : Ex (x := x) Q := let ⟨a, e, p⟩ := h; ⟨a, e, k a p⟩
theorem Ex.of {x : Option α} {a : α} {Q : α → Prop} (h : x = some a) (k : Q a) : Ex (x := x) Q := ⟨a, h, k⟩
theorem ex_eq {x : Option α} {a : α} (h : x = some a) (Q : α → Prop) : Ex (x := x) Q = Q a := by rw [h, ex_some]
theorem Ex.get {x : Option α} {a : α} (h : Ex (x := x) (· = a)) : x = some a := let ⟨b, e, p⟩ := h; p ▸ e
end
def intO : O → Option Int
  | .d (.int i) => some i
  | _ => none
theorem intO_none {o : O} (h : ∀ i, o = .d (.int i) → False) : intO o = none := by
  unfold intO
  split
  · next i => exact (h i rfl).elim
  · rfl
section
variable {Φ : Fs} {st : St}
theorem q_int (i : Int) (Q : O × St → Prop) : Ex (x := evE Φ (.int i) st) Q = Q (.d (.int i), st) := by rw [evE, ex_some]
theorem q_bl (b : Bool) (Q : O × St → Prop) : Ex (x := evE Φ (.bl b) st) Q = Q (.d (.bool b), st) := by rw [evE, ex_some]
theorem q_non (Q : O × St → Prop) : Ex (x := evE Φ .non st) Q = Q (.d .none, st) := by rw [evE, ex_some]
theorem q_str (x : Str) (Q : O × St → Prop) : Ex (x := evE Φ (.str x) st) Q = Q (.d (.str x), st) := by rw [evE, ex_some]
theorem q_var (i : Nat) (Q : O × St → Prop) : Ex (x := evE Φ (.var i) st) Q = Ex (x := rdVar st i) Q := by rw [evE]
theorem q_bor (i : Nat) (Q : O × St → Prop) : Ex (x := evE Φ (.bor i) st) Q = Ex (x := rdBor st i) Q := by rw [evE]
theorem q_mov (i : Nat) (Q : O × St → Prop) : Ex (x := evE Φ (.mov i) st) Q = Ex (x := rdMov st i) Q := by rw [evE]
theorem q_bin (op : Bop) (a b : E) (Q : O × St → Prop) : Ex (x := evE Φ (.bin op a b) st) Q = Ex (x := evE Φ a st) fun r => Ex (x := evE Φ b r.2) fun q => Ex (x := vw q.2 r.1) fun u => Ex (x := vw q.2 q.1) fun w => Ex (x := binSem op u w) fun z => Q (z, q.2) := by
  rw [evE]; simp only [ex_ey, ey_bind, ey_map]
theorem q_neg (a : E) (Q : O × St → Prop) : Ex (x := evE Φ (.neg a) st) Q = Ex (x := evE Φ a st) fun r => Ex (x := intO r.1) fun i => Q (.d (.int (-i)), r.2) := by
  rw [evE, ex_bind]
  congr 1; funext r; obtain ⟨o, s⟩ := r
  dsimp only
  split
  · simp only [intO, ex_ey, ey_some]
  · next h => rw [intO_none h, ex_none, ex_none]
theorem q_cmp (op : Cop) (a b : E) (Q : O × St → Prop) : Ex (x := evE Φ (.cmp op a b) st) Q = Ex (x := evE Φ a st) fun r => Ex (x := evE Φ b r.2) fun q => Ex (x := vw q.2 r.1) fun u => Ex (x := vw q.2 q.1) fun w => Ex (x := cmpSem op u w) fun z => Q (.d (.bool z), q.2) := by
  rw [evE]; simp only [ex_ey, ey_bind, ey_map]
theorem q_not (a : T) (Q : O × St → Prop) : Ex (x := evE Φ (.not a) st) Q = Ex (x := evT Φ a st) fun r => Q (.d (.bool (!r.1)), r.2) := by rw [evE]; simp only [ex_ey, ey_map]
/-- and / or of bools -/
def boolO : O → Option Bool
  | .d (.bool b) => some b
  | _ => none
theorem q_and (a b : E) (Q : O × St → Prop) : Ex (x := evE Φ (.and a b) st) Q = Ex (x := evE Φ a st) fun r => Ex (x := boolO r.1) fun t => (t = true → Ex (x := evE Φ b r.2) Q) ∧ (t = false → Q (.d (.bool false), r.2)) := by
  rw [evE, ex_bind]
  congr 1; funext r; obtain ⟨o, s⟩ := r
  dsimp only
  split
  · simp only [ex_ey, boolO, ey_some, forall_const, reduceCtorEq, false_implies, true_implies, and_true]
  · simp only [ex_ey, boolO, ey_some, forall_const, reduceCtorEq, false_implies, true_implies, true_and]
  · next h1 h2 =>
    have : boolO o = none := by
      unfold boolO
      split
      · next b => cases b <;> simp_all
      · rfl
    rw [this, ex_none, ex_none]
theorem q_or (a b : E) (Q : O × St → Prop) : Ex (x := evE Φ (.or a b) st) Q = Ex (x := evE Φ a st) fun r => Ex (x := boolO r.1) fun t => (t = true → Q (.d (.bool true), r.2)) ∧ (t = false → Ex (x := evE Φ b r.2) Q) := by
  rw [evE, ex_bind]
  congr 1; funext r; obtain ⟨o, s⟩ := r
  dsimp only
  split
  · simp only [ex_ey, boolO, ey_some, forall_const, reduceCtorEq, false_implies, true_implies, and_true]
  · simp only [ex_ey, boolO, ey_some, forall_const, reduceCtorEq, false_implies, true_implies, true_and]
  · next h1 h2 =>
    have : boolO o = none := by
      unfold boolO
      split
      · next b => cases b <;> simp_all
      · rfl
    rw [this, ex_none, ex_none]
theorem q_ife (c : T) (a b : E) (Q : O × St → Prop) : Ex (x := evE Φ (.ife c a b) st) Q = Ex (x := evT Φ c st) fun r => (r.1 = true → Ex (x := evE Φ a r.2) Q) ∧ (r.1 = false → Ex (x := evE Φ b r.2) Q) := by
  rw [evE, ex_bind]
  congr 1; funext r; obtain ⟨o, s⟩ := r
  cases o <;> simp only [ex_ey, Bool.false_eq_true, if_false, if_true, forall_const, reduceCtorEq, false_implies, true_implies, and_true, true_and]
theorem q_tup (es : Es) (Q : O × St → Prop) : Ex (x := evE Φ (.tup es) st) Q = Ex (x := evEs Φ es st) fun r => r.1.length ≤ sizeLine ∧ Ex (x := datAll r.1) fun xs => Q (.d (.tuple xs), r.2) := by
  rw [evE]; simp only [ex_ey, ey_bind, ey_iteN, ey_map]
theorem q_lst (es : Es) (Q : O × St → Prop) : Ex (x := evE Φ (.lst es) st) Q = Ex (x := evEs Φ es st) fun r => r.1.length ≤ sizeLine ∧ Ex (x := datAll r.1) fun xs => Q (.lst xs, r.2) := by
  rw [evE]; simp only [ex_ey, ey_bind, ey_iteN, ey_map]
theorem q_idx (a i : E) (Q : O × St → Prop) : Ex (x := evE Φ (.idx a i) st) Q = Ex (x := evE Φ a st) fun r => Ex (x := evE Φ i r.2) fun q => Ex (x := vw q.2 r.1) fun u => Ex (x := vw q.2 q.1) fun w => Ex (x := idxSem u w) fun z => Q (z, q.2) := by
  rw [evE]; simp only [ex_ey, ey_bind, ey_map]
theorem q_slc (a : E) (lo hi : Oe) (Q : O × St → Prop) : Ex (x := evE Φ (.slc a lo hi) st) Q = Ex (x := evE Φ a st) fun r => Ex (x := evOe Φ lo r.2) fun q => Ex (x := evOe Φ hi q.2) fun p => Ex (x := vw p.2 r.1) fun u => Ex (x := slcSem u q.1 p.1) fun z => Q (z, p.2) := by
  rw [evE]; simp only [ex_ey, ey_bind, ey_map]
theorem q_rev (a : E) (Q : O × St → Prop) : Ex (x := evE Φ (.rev a) st) Q = Ex (x := evE Φ a st) fun r => Ex (x := vw r.2 r.1) fun u => Ex (x := revSem u) fun z => Q (z, r.2) := by
  rw [evE]; simp only [ex_ey, ey_bind, ey_map]
theorem q_fn (p : Prim) (es : Es) (Q : O × St → Prop) : Ex (x := evE Φ (.fn p es) st) Q = Ex (x := evEs Φ es st) fun r => Ex (x := vwAll r.2 r.1) fun us => Ex (x := primSem p us) fun z => Q (z, r.2) := by
  rw [evE]; simp only [ex_ey, ey_bind, ey_map]
theorem q_mt (m : Mt) (a : E) (es : Es) (Q : O × St → Prop) : Ex (x := evE Φ (.mt m a es) st) Q = Ex (x := evE Φ a st) fun r => Ex (x := vw r.2 r.1) fun u => mtTy m u = true ∧ Ex (x := evEs Φ es r.2) fun q => Ex (x := vwAll q.2 (r.1 :: q.1)) fun us => Ex (x := mtSem m us) fun z => Q (z, q.2) := by
  rw [evE]; simp only [ex_ey, ey_bind, ey_map, ey_iteN]
theorem q_call {f : Str} {n : Nat} {φ : PFn} (h : Φ.p f = some (n, φ)) (es : Es) (Q : O × St → Prop) : Ex (x := evE Φ (.call f es) st) Q = Ex (x := evEs Φ es st) fun r => Ex (x := frzAll r.1) fun qs => (qs.length = n ∧ qs.all O.free = true) ∧ Ex (x := φ qs) fun z => Q (z, r.2) := by
  rw [evE, h]; simp only [ex_ey, ey_bind, ey_map, ey_iteN]
theorem q_calls {f : Str} {n : Nat} {φ : SFn} (h : Φ.s f = some (n, φ)) (es : Es) (Q : O × St → Prop) : Ex (x := evE Φ (.calls f es) st) Q = Ex (x := evEs Φ es st) fun r => Ex (x := frzAll r.1) fun qs => Ex (x := r.2.src) fun s => qs.length = n ∧ Ex (x := φ qs s) fun z => Q (z.1, { r.2 with src := some z.2 }) := by
  rw [evE, h]
  simp only [ex_ey, ey_bind]
  congr 1; funext r; congr 1; funext qs
  cases r.2.src with
  | none => simp only [ex_ey, ey_none]
  | some s => simp only [ex_ey, ey_some, ey_iteN, ey_map]
def lcStep (Φ : Fs) (elt : E) (tg : Tg) (c : Oc) (x : PyData) (s : St) : Option (Option O × St) := (asg tg x s).bind fun s2 => (evOc Φ c s2).bind fun (t, s3) => if t then (evE Φ elt s3).map fun (o, s4) => (some o, s4) else some (none, s3)
theorem q_lcStep (elt : E) (tg : Tg) (c : Oc) (x : PyData) (Q : Option O × St → Prop) : Ex (x := lcStep Φ elt tg c x st) Q = Ex (x := asg tg x st) fun s2 => Ex (x := evOc Φ c s2) fun r => (r.1 = true → Ex (x := evE Φ elt r.2) fun q => Q (some q.1, q.2)) ∧ (r.1 = false → Q (none, r.2)) := by
  unfold lcStep
  simp only [ex_ey, ey_bind]
  congr 1; funext s2; congr 1; funext r
  obtain ⟨t, s3⟩ := r
  cases t <;> simp only [ex_ey, Bool.false_eq_true, if_false, if_true, ey_map, ey_some, forall_const, reduceCtorEq, false_implies, true_implies, and_true, true_and]
theorem q_lc (elt : E) (tg : Tg) (it : It) (c : Oc) (own : List Nat) (Q : O × St → Prop) : Ex (x := evE Φ (.lc false elt tg it c own) st) Q = Ex (x := evIt Φ it st) fun r => Ex (x := lcLoop (lcStep Φ elt tg c) own r.1 (clr own r.2)) fun q => q.1.length ≤ sizeLine ∧ Ex (x := datAll q.1) fun ys => Q (.lst ys, q.2) := by
  rw [evE]; simp only [ex_ey, ey_bind, ey_iteN, ey_map, Bool.false_eq_true, if_false]
  rfl
theorem q_dnew (t : Bool) (Q : O × St → Prop) : Ex (x := evE Φ (.dnew t) st) Q = Q (.dct t [], st) := by rw [evE, ex_some]
theorem q_dof (e : E) (Q : O × St → Prop) : Ex (x := evE Φ (.dof true e) st) Q = Ex (x := evE Φ e st) fun r => Ex (x := seqP r.2 r.1) fun xs => Ex (x := pairsOf xs) fun ps => Ex (x := dictOf true ps []) fun kvs => Q (.dct true kvs, r.2) := by
  rw [evE]; simp only [ex_ey, ey_bind, ey_map, if_true]
theorem q_sg (i : Nat) (k : Str) (Q : O × St → Prop) : Ex (x := evE Φ (.sg i k) st) Q = (isSrc st i = true ∧ Ex (x := st.src) fun s => Ex (x := sget s k) fun v => Q (.d (.int v), st)) := by
  rw [evE]; simp only [ex_ey, ey_bind, ey_map, ey_iteN]
theorem q_sl (i : Nat) (Q : O × St → Prop) : Ex (x := evE Φ (.sl i) st) Q = (isSrc st i = true ∧ Ex (x := st.src) fun s => Q (.d (.int s.cells.length), st)) := by
  rw [evE]; simp only [ex_ey, ey_bind, ey_map, ey_iteN]
theorem q_sp (i : Nat) (Q : O × St → Prop) : Ex (x := evE Φ (.sp i) st) Q = (isSrc st i = true ∧ Ex (x := st.src) fun s => Ex (x := s.cells[s.cells.length - 1]?) fun v => Q (.d (.int v), { st with src := some { s with cells := s.cells.dropLast } })) := by
  rw [evE]; simp only [ex_ey, ey_bind, ey_map, ey_iteN]
theorem q_nil (Q : List O × St → Prop) : Ex (x := evEs Φ .nil st) Q = Q ([], st) := by rw [evEs, ex_some]
theorem q_cons (e : E) (es : Es) (Q : List O × St → Prop) : Ex (x := evEs Φ (.cons e es) st) Q = Ex (x := evE Φ e st) fun r => Ex (x := evEs Φ es r.2) fun q => Q (r.1 :: q.1, q.2) := by
  rw [evEs]; simp only [ex_ey, ey_bind, ey_map]
theorem q_oeno (Q : Option Int × St → Prop) : Ex (x := evOe Φ .no st) Q = Q (none, st) := by rw [evOe, ex_some]
theorem q_oeyes (e : E) (Q : Option Int × St → Prop) : Ex (x := evOe Φ (.yes e) st) Q = Ex (x := evE Φ e st) fun r => Ex (x := intO r.1) fun i => Q (some i, r.2) := by
  rw [evOe, ex_bind]
  congr 1; funext r; obtain ⟨o, s⟩ := r
  dsimp only
  split
  · simp only [ex_ey, intO, ey_some]
  · next h =>
    simp only [intO_none h, ex_ey, ey_none]
theorem q_ocno (Q : Bool × St → Prop) : Ex (x := evOc Φ .no st) Q = Q (true, st) := by rw [evOc, ex_some]
theorem q_ocyes (c : T) (Q : Bool × St → Prop) : Ex (x := evOc Φ (.yes c) st) Q = Ex (x := evT Φ c st) Q := by rw [evOc]
theorem q_tv (e : E) (Q : Bool × St → Prop) : Ex (x := evT Φ (.v e) st) Q = Ex (x := evE Φ e st) fun r => Ex (x := vw r.2 r.1) fun u => Ex (x := truSem u) fun b => Q (b, r.2) := by
  rw [evT]; simp only [ex_ey, ey_bind, ey_map]
theorem q_tand (a b : T) (Q : Bool × St → Prop) : Ex (x := evT Φ (.and a b) st) Q = Ex (x := evT Φ a st) fun r => (r.1 = true → Ex (x := evT Φ b r.2) Q) ∧ (r.1 = false → Q (false, r.2)) := by
  rw [evT, ex_bind]
  congr 1; funext r; obtain ⟨o, s⟩ := r
  cases o <;> simp only [ex_ey, Bool.false_eq_true, if_false, if_true, ey_some, forall_const, reduceCtorEq, false_implies, true_implies, and_true, true_and]
theorem q_tor (a b : T) (Q : Bool × St → Prop) : Ex (x := evT Φ (.or a b) st) Q = Ex (x := evT Φ a st) fun r => (r.1 = true → Q (true, r.2)) ∧ (r.1 = false → Ex (x := evT Φ b r.2) Q) := by
  rw [evT, ex_bind]
  congr 1; funext r; obtain ⟨o, s⟩ := r
  cases o <;> simp only [ex_ey, Bool.false_eq_true, if_false, if_true, ey_some, forall_const, reduceCtorEq, false_implies, true_implies, and_true, true_and]
theorem q_tnot (a : T) (Q : Bool × St → Prop) : Ex (x := evT Φ (.not a) st) Q = Ex (x := evT Φ a st) fun r => Q (!r.1, r.2) := by rw [evT]; simp only [ex_ey, ey_map]
theorem q_seq (e : E) (Q : List PyData × St → Prop) : Ex (x := evIt Φ (.seq e) st) Q = Ex (x := evE Φ e st) fun r => Ex (x := r.1.dat) fun o => Ex (x := seqOf o) fun xs => Q (xs, r.2) := by
  rw [evIt]; simp only [ex_ey, ey_bind, ey_map]
theorem q_rng1 (b : E) (Q : List PyData × St → Prop) : Ex (x := evIt Φ (.rng1 b) st) Q = Ex (x := evE Φ b st) fun r => Ex (x := intO r.1) fun j => inBnd j = true ∧ Q (rngD 0 j.toNat, r.2) := by
  rw [evIt, ex_bind]
  congr 1; funext r; obtain ⟨o, s⟩ := r
  dsimp only
  split
  · simp only [ex_ey, intO, ey_some, ey_iteN]
  · next h =>
    simp only [intO_none h, ex_ey, ey_none]
theorem q_rng2 (a b : E) (Q : List PyData × St → Prop) : Ex (x := evIt Φ (.rng2 a b) st) Q = Ex (x := evE Φ a st) fun r => Ex (x := evE Φ b r.2) fun q => Ex (x := intO r.1) fun i => Ex (x := intO q.1) fun j => (inBnd i && inBnd j) = true ∧ Q (rngD i (j - i).toNat, q.2) := by
  rw [evIt]
  simp only [ex_ey, ey_bind]
  congr 1; funext r; congr 1; funext q
  obtain ⟨o, s⟩ := r; obtain ⟨p, s'⟩ := q
  dsimp only
  split
  · simp only [ex_ey, intO, ey_some, ey_iteN]
  · next h =>
    cases ho : intO o with
    | none => simp only [ey_none]
    | some i =>
      cases hp : intO p with
      | none => simp only [ey_none, ey_some]
      | some j =>
        exfalso
        unfold intO at ho hp
        split at ho
        · split at hp
          · exact h _ _ rfl rfl
          · cases hp
        · cases ho
theorem q_zip (a b : E) (Q : List PyData × St → Prop) : Ex (x := evIt Φ (.zip a b) st) Q = Ex (x := evE Φ a st) fun r => Ex (x := evE Φ b r.2) fun q => Ex (x := datAll [r.1, q.1]) fun ds => Ex (x := zip2 ds) fun p => Q (zipD p.1 p.2, q.2) := by
  rw [evIt]; simp only [ex_ey, ey_bind, ey_map]
theorem q_zips (a b : E) (Q : List PyData × St → Prop) : Ex (x := evIt Φ (.zips a b) st) Q = Ex (x := evE Φ a st) fun r => Ex (x := evE Φ b r.2) fun q => Ex (x := datAll [r.1, q.1]) fun ds => Ex (x := zip2t ds) fun p => p.1.length = p.2.length ∧ Q (zipD p.1 p.2, q.2) := by
  rw [evIt]; simp only [ex_ey, ey_bind, ey_iteN, ey_some]

/-! ### statements -/
def OutK (Φ : Fs) (ss : Ss) (Q : Out → Prop) : Out → Prop
  | .nx s => Ex (x := evSs Φ ss s) Q
  | o => Q o
theorem outK_nx (ss : Ss) (s : St) (Q : Out → Prop) : OutK Φ ss Q (.nx s) = Ex (x := evSs Φ ss s) Q := rfl
theorem outK_ret (ss : Ss) (o : O) (s : Option Src) (Q : Out → Prop) : OutK Φ ss Q (.ret o s) = Q (.ret o s) := rfl
theorem outK_brk (ss : Ss) (s : St) (Q : Out → Prop) : OutK Φ ss Q (.brk s) = Q (.brk s) := rfl
theorem outK_cnt (ss : Ss) (s : St) (Q : Out → Prop) : OutK Φ ss Q (.cnt s) = Q (.cnt s) := rfl
theorem q_snil (Q : Out → Prop) : Ex (x := evSs Φ .nil st) Q = Q (.nx st) := by rw [evSs, ex_some]
theorem q_scons (s : S) (ss : Ss) (Q : Out → Prop) : Ex (x := evSs Φ (.cons s ss) st) Q = Ex (x := evS Φ s st) (OutK Φ ss Q) := by
  rw [evSs]
  cases evS Φ s st with
  | none => rw [ex_none, ex_none]
  | some o => cases o <;> simp only [ex_ey, ey_some, OutK]
theorem q_set (i : Nat) (e : E) (Q : Out → Prop) : Ex (x := evS Φ (.set i e) st) Q = Ex (x := evE Φ e st) fun r => Ex (x := put r.2 i r.1) fun s => Q (.nx s) := by
  rw [evS]; simp only [ex_ey, ey_bind, ey_map]
theorem q_par (is : List Nat) (es : Es) (Q : Out → Prop) : Ex (x := evS Φ (.par is es) st) Q = Ex (x := evEs Φ es st) fun r => Ex (x := puts is r.1 r.2) fun s => Q (.nx s) := by
  rw [evS]; simp only [ex_ey, ey_bind, ey_map]
theorem q_sti (i : Nat) (k e : E) (Q : Out → Prop) (h : ∃ o, st.ρ[i]? = some (some o)) : Ex (x := evS Φ (.sti i k e) st) Q = Ex (x := evE Φ e st) fun r => Ex (x := evE Φ k r.2) fun q => Ex (x := stAt q.2 i q.1 r.1) fun s => Q (.nx s) := by
  obtain ⟨o, h⟩ := h
  rw [evS, h]; simp only [ex_ey, ey_bind, ey_map]
theorem q_app (i : Nat) (e : E) (Q : Out → Prop) (h : ∃ xs, st.ρ[i]? = some (some (.lst xs))) : Ex (x := evS Φ (.app i e) st) Q = Ex (x := evE Φ e st) fun r => Ex (x := appAt r.2 i r.1) fun s => Q (.nx s) := by
  obtain ⟨o, h⟩ := h
  rw [evS, h]; simp only [ex_ey, ey_bind, ey_map]
theorem q_ifs (c : T) (a b : Ss) (Q : Out → Prop) : Ex (x := evS Φ (.ifs c a b) st) Q = Ex (x := evT Φ c st) fun r => (r.1 = true → Ex (x := evSs Φ a r.2) Q) ∧ (r.1 = false → Ex (x := evSs Φ b r.2) Q) := by
  rw [evS, ex_bind]
  congr 1; funext r; obtain ⟨o, s⟩ := r
  cases o <;> simp only [ex_ey, Bool.false_eq_true, if_false, if_true, forall_const, reduceCtorEq, false_implies, true_implies, and_true, true_and]
def forStep (Φ : Fs) (tg : Tg) (body : Ss) (x : PyData) (s : St) : Option Out := (asg tg x s).bind fun s2 => evSs Φ body s2
theorem q_forStep (tg : Tg) (body : Ss) (x : PyData) (Q : Out → Prop) : Ex (x := forStep Φ tg body x st) Q = Ex (x := asg tg x st) fun s2 => Ex (x := evSs Φ body s2) Q := by
  unfold forStep; rw [ex_bind]
theorem q_forr (tg : Tg) (it : It) (body : Ss) (Q : Out → Prop) : Ex (x := evS Φ (.forr tg it body) st) Q = Ex (x := evIt Φ it st) fun r => Ex (x := forLoop (forStep Φ tg body) r.1 r.2) Q := by
  rw [evS, ex_bind]; rfl
theorem q_whl (n : Nat) (c : T) (body : Ss) (Q : Out → Prop) : Ex (x := evS Φ (.whl n c body) st) Q = Ex (x := whlLoop (evT Φ c) (evSs Φ body) n st) Q := by rw [evS]
theorem q_ret (e : E) (Q : Out → Prop) : Ex (x := evS Φ (.ret e) st) Q = Ex (x := evE Φ e st) fun r => r.1.slot = true ∧ Q (.ret r.1 r.2.src) := by
  rw [evS]; simp only [ex_ey, ey_bind, ey_iteN, ey_some]
theorem q_retn (Q : Out → Prop) : Ex (x := evS Φ .retn st) Q = Q (.ret (.d .none) st.src) := by rw [evS, ex_some]
theorem q_brk (Q : Out → Prop) : Ex (x := evS Φ .brk st) Q = Q (.brk st) := by rw [evS, ex_some]
theorem q_cnt (Q : Out → Prop) : Ex (x := evS Φ .cnt st) Q = Q (.cnt st) := by rw [evS, ex_some]
theorem q_pass (Q : Out → Prop) : Ex (x := evS Φ .pass st) Q = Q (.nx st) := by rw [evS, ex_some]
theorem q_sw (i : Nat) (k : Str) (e : E) (Q : Out → Prop) : Ex (x := evS Φ (.sw i k e) st) Q = (isSrc st i = true ∧ Ex (x := evE Φ e st) fun r => Ex (x := intO r.1) fun v => Ex (x := r.2.src) fun s => Ex (x := sput s k v) fun s' => Q (.nx { r.2 with src := some s' })) := by
  rw [evS]; simp only [ex_ey, ey_bind, ey_iteN]
  congr 1; congr 1; funext r; obtain ⟨o, s⟩ := r
  dsimp only
  split
  · simp only [ex_ey, intO, ey_some, ey_bind, ey_map]
  · next h =>
    simp only [intO_none h, ex_ey, ey_none]
/-! ### calls -/
def RetP (Q : O → Prop) : Out → Prop
  | .ret o _ => Q o
  | .nx _ => Q (.d .none)
  | _ => False
def RetS (Q : O × Src → Prop) : Out → Prop
  | .ret o (some s) => Q (o, s)
  | .nx st => Ex (x := st.src) fun s => Q (.d .none, s)
  | _ => False
theorem retP_ret (Q : O → Prop) (o : O) (s : Option Src) : RetP Q (.ret o s) = Q o := rfl
theorem retS_ret (Q : O × Src → Prop) (o : O) (s : Src) : RetS Q (.ret o (some s)) = Q (o, s) := rfl
theorem q_runP (n : Nat) (body : Ss) (os : List O) (Q : O → Prop) : Ex (x := runP Φ n body os) Q = Ex (x := evSs Φ body ⟨initR n os, none⟩) (RetP Q) := by
  unfold runP
  cases evSs Φ body ⟨initR n os, none⟩ with
  | none => simp only [ex_ey, ey_none]
  | some o => cases o <;> simp only [ex_ey, ey_some, ey_none, RetP]
theorem q_runS (n : Nat) (body : Ss) (os : List O) (s : Src) (Q : O × Src → Prop) : Ex (x := runS Φ n body os s) Q = Ex (x := evSs Φ body ⟨initR n os, some s⟩) (RetS Q) := by
  unfold runS
  cases evSs Φ body ⟨initR n os, some s⟩ with
  | none => simp only [ex_ey, ey_none]
  | some o => cases o with
    | ret o s => cases s <;> simp only [ex_ey, ey_some, ey_none, RetS]
    | nx st => simp only [ex_ey, ey_some, ey_map, RetS]
    | _ => simp only [ex_ey, ey_some, ey_none, RetS]
end
/-! ### loops -/
theorem forLoop_inv {f : PyData → St → Option Out} {Q : Out → Prop} (I : List PyData → St → Prop) (hx : ∀ x xs s, I (x :: xs) s → Ex (x := f x s) fun o => match o with
    | .nx s => I xs s
    | .cnt s => I xs s
    | .brk s => Q (.nx s)
    | .ret o s => Q (.ret o s)) (hn : ∀ s, I [] s → Q (.nx s)) : ∀ (xs : List PyData) (s : St), I xs s → Ex (x := forLoop f xs s) Q
  | [], s, h => by
    unfold forLoop
    rw [ex_some]
    exact hn s h
  | x :: xs, s, h => by
    obtain ⟨o, e, k⟩ := hx x xs s h
    unfold forLoop
    rw [e]
    cases o with
    | nx s' => exact forLoop_inv I hx hn xs s' k
    | cnt s' => exact forLoop_inv I hx hn xs s' k
    | brk s' => exact .of rfl k
    | ret o s' => exact .of rfl k
/-- a comprehension whose turns leave the state as it is -/
theorem lc_pure {f : PyData → St → Option (Option O × St)} {own : List Nat} {st : St} (g : PyData → Option O) : ∀ (xs : List PyData), (∀ x ∈ xs, Ex (x := f x st) fun r => r.1 = g x ∧ clr own r.2 = st) → lcLoop f own xs st = some (xs.filterMap g, st)
  | [], _ => rfl
  | x :: xs, h => by
    obtain ⟨⟨o, s⟩, e, e1, e2⟩ := h x List.mem_cons_self
    have e1 : o = g x := e1
    have e2 : clr own s = st := e2
    unfold lcLoop
    rw [e, Option.bind_some]
    show (lcLoop f own xs (clr own s)).map _ = _
    rw [e2, lc_pure g xs fun y hy => h y (List.mem_cons_of_mem _ hy), Option.map_some, List.filterMap_cons]
    subst e1
    cases g x <;> rfl
theorem lc_inv {f : PyData → St → Option (Option O × St)} {own : List Nat} (I : St → Prop) (P : O → Prop) : ∀ (xs : List PyData) (st : St), I st → (∀ x ∈ xs, ∀ s, I s → Ex (x := f x s) fun r => (∀ o, r.1 = some o → P o) ∧ I (clr own r.2)) → Ex (x := lcLoop f own xs st) fun r => (∀ o ∈ r.1, P o) ∧ r.1.length ≤ xs.length ∧ I r.2
  | [], st, h, _ => Ex.of rfl ⟨fun _ z => (List.not_mem_nil z).elim, Nat.le_refl _, h⟩
  | x :: xs, st, h, k => by
    obtain ⟨⟨o, s⟩, e, e1, e2⟩ := k x List.mem_cons_self st h
    obtain ⟨⟨os, s2⟩, e3, e4, e5, e6⟩ := lc_inv I P xs (clr own s) e2 fun y hy => k y (List.mem_cons_of_mem _ hy)
    unfold lcLoop
    rw [e, Option.bind_some]
    show Ex (x := (lcLoop f own xs (clr own s)).map _) _
    rw [e3, Option.map_some]
    refine Ex.of rfl ⟨fun p hp => ?_, ?_, e6⟩
    · rcases List.mem_append.1 hp with q | q
      · exact e1 p (by cases o with | none => nomatch q | some z => rw [List.mem_singleton.1 q])
      · exact e4 p q
    · show (o.toList ++ os).length ≤ _
      rw [List.length_append, List.length_cons]
      cases o with
      | none => simpa using Nat.le_succ_of_le e5
      | some z => simp only [Option.toList_some, List.length_cons, List.length_nil]; have := show os.length ≤ xs.length from e5; omega
end Vm


set_option Elab.async false
set_option linter.all false
set_option maxRecDepth 100000
set_option maxHeartbeats 4000000
/-! Vm, part 28: the draw from the source, as the laws from k82 on make it. -/
namespace Vm
open PySem
theorem sget_left (s : Src) : sget s "left" = some s.left := rfl
theorem sget_mixed (s : Src) : sget s "mixed" = some s.mixed := rfl
theorem sget_turn (s : Src) : sget s "turn" = some s.turn := rfl
theorem sput_left (s : Src) (v : Int) : sput s "left" v = some { s with left := v } := rfl
theorem sput_mixed (s : Src) (v : Int) : sput s "mixed" v = some { s with mixed := v } := rfl
theorem sput_turn (s : Src) (v : Int) : sput s "turn" v = some { s with turn := v } := rfl

local macro_rules | `(tactic| and_intros) => `(tactic| simp -dsimp only [q_int, q_bl, q_non, q_str, q_var, q_bor, q_mov, q_bin, q_neg, q_cmp, q_not, q_and, q_or, q_ife, q_tup, q_lst, q_idx, q_slc, q_rev, q_fn, q_mt, q_lcStep, q_lc, q_dnew, q_dof, q_sg, q_sl, q_sp, q_nil, q_cons, q_oeno, q_oeyes, q_ocno, q_ocyes, q_tv, q_tand, q_tor, q_tnot, q_seq, q_rng1, q_rng2, q_zip, q_zips, outK_nx, outK_ret, outK_brk, outK_cnt, q_snil, q_scons, q_set, q_par, q_ifs, q_forStep, q_forr, q_whl, q_ret, q_retn, q_brk, q_cnt, q_pass, q_sw, retP_ret, retS_ret, q_runP, q_runS, ex_some, ex_none, ex_iteN, ex_map, ex_bind,
  rdVar, rdBor, rdMov, O.frz, List.getElem?_cons_zero, List.getElem?_cons_succ, St.set, List.set_cons_zero, List.set_cons_succ, Option.map_some, Option.map_none, Option.bind_some, Option.bind_none, isSrc, sget_left, sget_mixed, sget_turn, sput_left, sput_mixed, sput_turn, vw_d, vw_pt, vw_lst, cmp_lt, cmp_gt, cmp_le, cmp_ge, cmp_eqI, cmp_neI, bin_add, bin_sub, tru_b, boolO, intO, put, puts, O.slot, List.length_cons, List.length_nil, Nat.reduceAdd, Nat.reduceLT, Nat.reduceLeDiff, and_true, true_and, and_self, forall_const, true_implies, false_implies, reduceCtorEq, decide_eq_true_eq, decide_eq_false_iff_not, if_true, if_false, Int.reduceNeg, Option.some.injEq, primSem, vwAll, datAll, O.dat, implies_true])
/-- the text of the draw -/
def a_pick : Ss := (.cons (.ifs (.v (.cmp .lt (.bor 1) (.int 2))) (.cons (.ret (.int 0)) .nil) .nil) (.cons (.whl 100 (.and (.v (.cmp .lt (.sg 0 "left") (.int 2))) (.v (.cmp .gt (.sl 0) (.int 0)))) (.cons (.sw 0 "left" (.sp 0)) .nil)) (.cons (.set 2 (.sg 0 "left")) (.cons (.ifs (.v (.cmp .gt (.bor 2) (.int 1))) (.cons (.sw 0 "left" (.bin .fdiv (.bor 2) (.bor 1))) (.cons (.ret (.bin .fmod (.fn .int (.cons (.bor 2) .nil)) (.bor 1))) .nil)) .nil) (.cons (.sw 0 "turn" (.bin .add (.sg 0 "turn") (.int 1))) (.cons (.set 3 (.bin .fmod (.fn .int (.cons (.bin .add (.sg 0 "mixed") (.bin .mul (.sg 0 "turn") (.int 104729))) .nil)) (.int 998244353))) (.cons (.set 3 (.bin .fmod (.fn .int (.cons (.bin .add (.bin .mul (.bor 3) (.bor 3)) (.bin .mul (.sg 0 "turn") (.int 17))) .nil)) (.int 2147483647))) (.cons (.sw 0 "mixed" (.var 3)) (.cons (.ret (.bin .fmod (.fn .int (.cons (.bin .fdiv (.bor 3) (.int 16)) .nil)) (.bor 1))) .nil)))))))))
theorem pick_whl {Φ : Fs} {ρ : List (Option O)} : ∀ (n : Nat) (s : Src), s.cells.length < n → Ex (x := whlLoop (evT Φ (.and (.v (.cmp .lt (.sg 0 "left") (.int 2))) (.v (.cmp .gt (.sl 0) (.int 0))))) (evSs Φ (.cons (.sw 0 "left" (.sp 0)) .nil)) n ⟨some .src :: ρ, some s⟩) fun o => ∃ s', o = .nx ⟨some .src :: ρ, some s'⟩ ∧ s'.cells.length ≤ s.cells.length
  | 0, s, h => absurd h (Nat.not_lt_zero _)
  | n + 1, s, h => by
    have hc : evT Φ (.and (.v (.cmp .lt (.sg 0 "left") (.int 2))) (.v (.cmp .gt (.sl 0) (.int 0)))) ⟨some .src :: ρ, some s⟩ = some (decide (s.left < 2) && decide (0 < (s.cells.length : Int)), ⟨some .src :: ρ, some s⟩) := by
      apply Ex.get
      and_intros
      by_cases h1 : s.left < 2 <;> simp [h1]
    unfold whlLoop
    rw [hc]
    cases hb : (decide (s.left < 2) && decide (0 < (s.cells.length : Int))) with
    | false => exact Ex.of rfl ⟨s, rfl, Nat.le_refl _⟩
    | true =>
      simp only [Bool.and_eq_true, decide_eq_true_eq] at hb
      have hl : s.cells.length - 1 < s.cells.length := by omega
      have hv : s.cells[s.cells.length - 1]? = some s.cells[s.cells.length - 1] := List.getElem?_eq_getElem hl
      obtain ⟨o, e, h2⟩ : Ex (x := evSs Φ (.cons (.sw 0 "left" (.sp 0)) .nil) ⟨some .src :: ρ, some s⟩) fun o => ∃ s', o = .nx ⟨some .src :: ρ, some s'⟩ ∧ s'.cells.length = s.cells.length - 1 := by
        and_intros
        rw [ex_eq hv]
        and_intros
        exact ⟨_, rfl, by rw [List.length_dropLast]⟩
      obtain ⟨s', rfl, h3⟩ := h2
      show Ex (x := match evSs Φ (.cons (.sw 0 "left" (.sp 0)) .nil) ⟨some .src :: ρ, some s⟩ with
        | some (.nx s) => whlLoop _ _ n s
        | some (.cnt s) => whlLoop _ _ n s
        | some (.brk s) => some (.nx s)
        | some (.ret o s) => some (.ret o s)
        | none => none) _
      rw [e]
      refine (pick_whl n s' (by omega)).mono fun o ⟨s2, e2, h4⟩ => ⟨s2, e2, by omega⟩
theorem pick_spec {Φ : Fs} (s : Src) (m : Int) (hs : s.cells.length ≤ 63) (hm : m.natAbs.log2 < 9000) : Ex (x := runS Φ 4 a_pick [.src, .d (.int m)] s) fun r => ∃ v s', r = (.d (.int v), s') ∧ 0 ≤ v ∧ (v < m ∨ v = 0) ∧ s'.cells.length ≤ 63 := by
  unfold a_pick
  rw [q_runS]
  show Ex (x := evSs Φ _ ⟨[some .src, some (.d (.int m)), none, none], some s⟩) _
  and_intros
  refine ⟨fun _ => ⟨0, s, rfl, Int.le_refl _, .inr rfl, hs⟩, fun h2 => ?_⟩
  refine (pick_whl 100 s (by omega)).mono fun o ⟨s1, e1, h1⟩ => ?_
  subst e1
  and_intros
  refine ⟨fun h3 => ?_, fun h3 => ?_⟩
  · rw [bin_fdiv (by omega) hm]
    and_intros
    rw [bin_fmod (by omega)]
    and_intros
    exact ⟨_, _, rfl, Int.emod_nonneg _ (by omega), .inl (Int.emod_lt_of_pos _ (by omega)), Nat.le_trans h1 hs⟩
  · rw [bin_mulS (.inr (by decide))]
    and_intros
    rw [bin_fmod (by decide)]
    and_intros
    rw [bin_mulS (.inl (by omega))]
    and_intros
    rw [bin_mulS (.inr (by decide))]
    and_intros
    rw [bin_fmod (by decide)]
    and_intros
    rw [bin_fdiv (by decide) (by decide)]
    and_intros
    rw [bin_fmod (by omega)]
    and_intros
    exact ⟨_, _, rfl, Int.emod_nonneg _ (by omega), .inl (Int.emod_lt_of_pos _ (by omega)), Nat.le_trans h1 hs⟩
end Vm


set_option Elab.async false
set_option linter.all false
set_option maxRecDepth 100000
set_option maxHeartbeats 4000000
/-! Vm, part 29: draws of a member. -/
namespace Vm
open PySem PySem.Spec PyProof.Rows L2

local macro_rules | `(tactic| and_intros) => `(tactic| simp -dsimp only [q_int, q_bl, q_non, q_str, q_var, q_bor, q_mov, q_bin, q_neg, q_cmp, q_not, q_and, q_or, q_ife, q_tup, q_lst, q_idx, q_slc, q_rev, q_fn, q_mt, q_lcStep, q_lc, q_dnew, q_dof, q_sg, q_sl, q_sp, q_nil, q_cons, q_oeno, q_oeyes, q_ocno, q_ocyes, q_tv, q_tand, q_tor, q_tnot, q_seq, q_rng1, q_rng2, q_zip, q_zips, outK_nx, outK_ret, outK_brk, outK_cnt, q_snil, q_scons, q_set, q_par, q_ifs, q_forStep, q_forr, q_whl, q_ret, q_retn, q_brk, q_cnt, q_pass, q_sw, retP_ret, retS_ret, ex_some, ex_none, ex_iteN, ex_map, ex_bind,
  rdVar, rdBor, rdMov, O.frz, List.getElem?_cons_zero, List.getElem?_cons_succ, St.set, List.set_cons_zero, List.set_cons_succ, Option.map_some, Option.map_none, Option.bind_some, Option.bind_none, isSrc, sget_left, sget_mixed, sget_turn, sput_left, sput_mixed, sput_turn, vw_d, vw_pt, vw_lst, cmp_lt, cmp_gt, cmp_le, cmp_ge, cmp_eqI, cmp_neI, bin_add, bin_sub, tru_b, boolO, intO, put, puts, O.slot, List.length_cons, List.length_nil, Nat.reduceAdd, Nat.reduceLT, Nat.reduceLeDiff, and_true, true_and, and_self, forall_const, true_implies, false_implies, reduceCtorEq, decide_eq_true_eq, decide_eq_false_iff_not, if_true, if_false, Int.reduceNeg, Option.some.injEq, primSem, vwAll, datAll, O.dat, implies_true, frzAll, vw, vw0, seqOf, mtTy, List.all_cons, List.all_nil, O.free, Bool.and_self, Bool.and_true, Bool.true_and, idxSem, asg, asgs, List.length_map, stAt, Bool.not_true, Bool.not_false, Bool.false_eq_true])
theorem pick_nat {Φ : Fs} (s : Src) (m : Int) (hs : s.cells.length ≤ 63) (hm : m < 1000000000) (h0 : 0 ≤ m) : Ex (x := runS Φ 4 a_pick [.src, .d (.int m)] s) fun r => ∃ (v : Nat) (s' : Src), r = (.d (.int (v : Int)), s') ∧ ((v : Int) < m ∨ v = 0) ∧ s'.cells.length ≤ 63 := by
  have hl : m.natAbs.log2 < 9000 := by
    by_cases h : m.natAbs = 0
    · rw [h]; decide
    · exact Nat.lt_of_lt_of_le ((Nat.log2_lt h).2 (show m.natAbs < 2 ^ 30 by omega)) (by decide)
  refine (pick_spec s m hs hl).mono fun r ⟨v, s', e, h1, h2, h3⟩ => ⟨v.toNat, s', ?_, by omega, h3⟩
  rw [e, Int.toNat_of_nonneg h1]
theorem atI_lt {α : Type} {xs : List α} {j : Nat} (h : j < xs.length) : atI xs (j : Int) = some xs[j] := atI_nat (List.getElem?_eq_getElem h)
theorem ixN_lt {n j : Nat} (h : j < n) : ixN n (j : Int) = some j := by
  unfold ixN
  rw [if_pos (by omega), if_pos (by omega)]
  rfl
/-- one of some -/
def a_of : Ss := (.cons (.ret (.idx (.bor 1) (.calls "_law_pick" (.cons (.var 0) (.cons (.fn .len (.cons (.bor 1) .nil)) .nil))))) .nil)
def seqD : PyData → Option (List PyData)
  | .list xs => some xs
  | .tuple xs => some xs
  | _ => none
theorem of_spec {Φ Φ' : Fs} (hp : Φ.s "_law_pick" = some (2, runS Φ' 4 a_pick)) (s : Src) (d : PyData) {xs : List PyData} (hd : seqD d = some xs) (h0 : xs ≠ []) (hx : xs.length < 1000000) (hs : s.cells.length ≤ 63) :
    Ex (x := runS Φ 2 a_of [.src, .d d] s) fun r => ∃ x ∈ xs, ∃ s' : Src, r = (.d x, s') ∧ s'.cells.length ≤ 63 := by
  have hpos : 0 < xs.length := List.length_pos_iff.2 h0
  unfold a_of
  rw [q_runS]
  show Ex (x := evSs Φ _ ⟨[some .src, some (.d d)], some s⟩) _
  unfold seqD at hd
  split at hd
  all_goals cases hd
  all_goals
    and_intros
    rw [q_calls hp]
    and_intros
    refine (pick_nat s xs.length hs (by omega) (by omega)).mono fun r ⟨v, s', e, h2, h3⟩ => ?_
    subst e
    and_intros
    rw [atI_lt (show v < xs.length by omega)]
    and_intros
    exact ⟨_, List.getElem_mem _, s', rfl, h3⟩
end Vm


set_option Elab.async false
set_option linter.all false
set_option maxRecDepth 100000
set_option maxHeartbeats 4000000
/-! Vm, part 30: terms, dicts by terms, sums of terms, as plain lists. -/
namespace Vm
open PySem PySem.Spec PyProof.Rows L2

/-- a term: whole numbers from 0 on -/
def nums (ks : List Nat) : List PyData := ks.map fun k : Nat => PyData.int (k : Int)
def tm (ks : List Nat) : PyData := .tuple (nums ks)
theorem nums_length (ks : List Nat) : (nums ks).length = ks.length := List.length_map _
theorem nums_get (ks : List Nat) (j : Nat) (h : j < ks.length) : (nums ks)[j]? = some (.int (ks[j] : Int)) := by
  unfold nums
  rw [List.getElem?_map, List.getElem?_eq_getElem h]
  rfl
theorem nums_set (ks : List Nat) (j v : Nat) : (nums ks).set j (.int (v : Int)) = nums (ks.set j v) := (List.map_set).symm
def dkl (ks : List Nat) : List Key := ks.map fun k : Nat => .inl (k : Int)
theorem toKeys_nums : ∀ ks : List Nat, toKeys (nums ks) = some (dkl ks)
  | [] => rfl
  | k :: ks => by
    show (match toKey (.int (k : Int)), toKeys (nums ks) with
      | some k, some ks => some (k :: ks)
      | _, _ => none) = _
    rw [toKeys_nums ks]
    rfl
theorem noKey_nums {ks : List Nat} (h : ks ≠ []) : noKey (nums ks) = false := by
  unfold noKey
  rw [toKeys_nums]
  cases ks with
  | nil => exact absurd rfl h
  | cons => rfl
def dk (k : List Nat) : DK := .t (dkl k)
theorem dkl_inj : ∀ {a b : List Nat}, dkl a = dkl b → a = b
  | [], [], _ => rfl
  | [], _ :: _, h => by cases h
  | _ :: _, [], h => by cases h
  | x :: xs, y :: ys, h => by
    unfold dkl at h
    simp only [List.map_cons, List.cons.injEq, Sum.inl.injEq] at h
    rw [dkl_inj (a := xs) (b := ys) h.2]
    have := h.1
    rw [show x = y by omega]
theorem dkt_inj {a b : List Nat} (h : dk a = dk b) : a = b := dkl_inj (DK.t.inj h)
theorem toDK_tm {k : List Nat} (h : k ≠ []) : toDK (tm k) = some (dk k) := by
  show (if (nums k).isEmpty then none else (toKeys (nums k)).map DK.t) = _
  rw [toKeys_nums]
  cases k with
  | nil => exact absurd rfl h
  | cons => rfl
theorem dk_dat (k : List Nat) : (dk k).dat = tm k := by
  show PyData.tuple ((dkl k).map keyDat) = _
  unfold dkl tm nums
  rw [List.map_map]
  rfl
/-- a dict by terms; a sum of terms -/
abbrev Poly := List (List Nat × Int)
def kv (D : Poly) : KVs := D.map fun p => (dk p.1, .int p.2)
def pget (D : Poly) (k : List Nat) : Option Int := (D.find? fun p => decide (p.1 = k)).map (·.2)
def pput (D : Poly) (k : List Nat) (c : Int) : Poly := if (D.any fun p => decide (p.1 = k)) then D.map fun p => if p.1 = k then (p.1, c) else p else D ++ [(k, c)]
theorem dk_eq (a b : List Nat) : decide (dk a = dk b) = decide (a = b) := by
  by_cases h : a = b
  · subst h; simp
  · rw [decide_eq_false h, decide_eq_false fun z => h (dkt_inj z)]
theorem kvGet_kv (D : Poly) (k : List Nat) : kvGet (kv D) (dk k) = (pget D k).map .int := by
  unfold kvGet kv pget
  rw [List.find?_map, Option.map_map, Option.map_map]
  have : ((fun p : DK × PyData => decide (p.1 = dk k)) ∘ fun p : List Nat × Int => (dk p.1, PyData.int p.2)) = fun p => decide (p.1 = k) := by
    funext p
    exact dk_eq p.1 k
  rw [this]
  rfl
theorem kvPut_kv (D : Poly) (k : List Nat) (c : Int) : kvPut (kv D) (dk k) (.int c) = kv (pput D k c) := by
  unfold kvPut kv pput
  rw [List.any_map]
  have : ((fun p : DK × PyData => decide (p.1 = dk k)) ∘ fun p : List Nat × Int => (dk p.1, PyData.int p.2)) = fun p => decide (p.1 = k) := by
    funext p
    exact dk_eq p.1 k
  rw [this]
  split
  · rw [List.map_map, List.map_map]
    congr 1
    funext p
    show (if dk p.1 = dk k then _ else _) = _
    by_cases h : p.1 = k
    · simp only [Function.comp, h, if_true]
    · simp only [Function.comp, if_neg h, if_neg fun z => h (dkt_inj z)]
  · rw [List.map_append]
    rfl
/-- a sum of terms, as data -/
def sm (P : Poly) : List PyData := P.map fun p => .tuple [tm p.1, .int p.2]
theorem noKey_sm (P : Poly) : noKey (sm P) = true := by
  cases P with
  | nil => rfl
  | cons => rfl
theorem pairsOf_sm : ∀ P : Poly, pairsOf (sm P) = some (P.map fun p : List Nat × Int => (tm p.1, PyData.int p.2))
  | [] => rfl
  | p :: P => by
    show (pairsOf (sm P)).map _ = _
    rw [pairsOf_sm P]
    rfl
def mkD (P : Poly) (D : Poly) : Poly := P.foldl (fun (E : Poly) (p : List Nat × Int) => pput E p.1 p.2) D
theorem dictOf_sm : ∀ (P : Poly) (D : Poly), (∀ p ∈ P, p.1 ≠ []) → dictOf true (P.map fun p : List Nat × Int => (tm p.1, PyData.int p.2)) (kv D) = some (kv (mkD P D))
  | [], _, _ => rfl
  | p :: P, D, h => by
    show (match toDK (tm p.1) with
      | some k => if k.tk = true then dictOf true (P.map fun p : List Nat × Int => (tm p.1, PyData.int p.2)) (kvPut (kv D) k (.int p.2)) else none
      | none => none) = _
    rw [toDK_tm (h p List.mem_cons_self)]
    show (if (dk p.1).tk = true then dictOf true (P.map fun p : List Nat × Int => (tm p.1, PyData.int p.2)) (kvPut (kv D) (dk p.1) (.int p.2)) else none) = _
    rw [if_pos (show (dk p.1).tk = true from rfl), kvPut_kv, dictOf_sm P _ fun q hq => h q (List.mem_cons_of_mem _ hq)]
    rfl
theorem pget_pput (D : Poly) (k j : List Nat) (c : Int) : pget (pput D k c) j = if k = j then some c else pget D j := by
  unfold pget pput
  split
  · next h =>
    rw [List.find?_map]
    have e : ((fun p : List Nat × Int => decide (p.1 = j)) ∘ fun p : List Nat × Int => if p.1 = k then (p.1, c) else p) = fun p => decide (p.1 = j) := by
      funext p
      show decide ((if p.1 = k then (p.1, c) else p).1 = j) = _
      split <;> rfl
    rw [e, Option.map_map]
    cases hf : D.find? fun p => decide (p.1 = j) with
    | none =>
      split
      · next hk =>
        subst hk
        obtain ⟨p, hp, hq⟩ := List.any_eq_true.1 h
        exact absurd hq (List.find?_eq_none.1 hf p hp)
      · rfl
    | some p =>
      have hp : p.1 = j := by simpa using List.find?_some hf
      show some ((if p.1 = k then (p.1, c) else p).2) = _
      by_cases hk : k = j
      · rw [if_pos hk, if_pos (hp.trans hk.symm)]
      · rw [if_neg hk, if_neg fun z => hk (z.symm.trans hp)]
        rfl
  · next h =>
    rw [List.find?_append]
    by_cases hk : k = j
    · subst hk
      have : (D.find? fun p => decide (p.1 = k)) = none := by
        rw [List.find?_eq_none]
        intro p hp hq
        exact h (List.any_eq_true.2 ⟨p, hp, hq⟩)
      rw [this, if_pos rfl, Option.none_or, List.find?_cons_of_pos (by simp)]
      rfl
    · rw [if_neg hk, List.find?_cons_of_neg (by simpa using hk)]
      simp
def keys (D : Poly) : List (List Nat) := D.map (·.1)
theorem pput_keys (D : Poly) (k : List Nat) (c : Int) : keys (pput D k c) = if k ∈ keys D then keys D else keys D ++ [k] := by
  have e : (D.any fun p => decide (p.1 = k)) = decide (k ∈ keys D) := by
    rw [Bool.eq_iff_iff, decide_eq_true_eq, List.any_eq_true]
    unfold keys
    rw [List.mem_map]
    exact ⟨fun ⟨p, h1, h2⟩ => ⟨p, h1, by simpa using h2⟩, fun ⟨p, h1, h2⟩ => ⟨p, h1, by simpa using h2⟩⟩
  unfold pput
  rw [e]
  by_cases h : k ∈ keys D
  · simp only [h, decide_true, if_true]
    unfold keys
    rw [List.map_map]
    congr 1
    funext p
    show (if p.1 = k then (p.1, c) else p).1 = p.1
    split <;> rfl
  · simp only [h, decide_false, Bool.false_eq_true, if_false]
    unfold keys
    rw [List.map_append]
    rfl
theorem pput_nodup {D : Poly} (h : (keys D).Nodup) (k : List Nat) (c : Int) : (keys (pput D k c)).Nodup := by
  rw [pput_keys]
  split
  · exact h
  · next n =>
    rw [List.nodup_append]
    exact ⟨h, List.nodup_cons.2 ⟨List.not_mem_nil, List.nodup_nil⟩, fun a ha b hb e => n (by rw [List.mem_singleton.1 hb] at e; exact e ▸ ha)⟩
theorem pput_length_le (D : Poly) (k : List Nat) (c : Int) : (pput D k c).length ≤ D.length + 1 := by
  unfold pput
  split
  · rw [List.length_map]; omega
  · rw [List.length_append]; exact Nat.le_refl _
theorem pput_all {D : Poly} {R : List Nat × Int → Prop} (h : ∀ p ∈ D, R p) {k : List Nat} {c : Int} (hk : R (k, c)) : ∀ p ∈ pput D k c, R p := by
  intro p hp
  unfold pput at hp
  split at hp
  · obtain ⟨q, hq, e⟩ := List.mem_map.1 hp
    by_cases z : q.1 = k
    · rw [if_pos z] at e; rw [← e, z]; exact hk
    · rw [if_neg z] at e; rw [← e]; exact h q hq
  · rcases List.mem_append.1 hp with q | q
    · exact h p q
    · rw [List.mem_singleton.1 q]; exact hk
end Vm


set_option Elab.async false
set_option linter.all false
set_option maxRecDepth 100000
set_option maxHeartbeats 4000000
/-! Vm, part 31: a dict by terms, told as a sum. -/
namespace Vm
open PySem PySem.Spec PyProof.Rows L2

theorem idx_list (xs : List PyData) (i : Int) : idxSem (.d (.list xs)) (.d (.int i)) = (atI xs i).map .d := rfl
theorem idx_tup (xs : List PyData) (i : Int) : idxSem (.d (.tuple xs)) (.d (.int i)) = (atI xs i).map .d := rfl
local macro_rules | `(tactic| and_intros) => `(tactic| simp -dsimp only [q_int, q_bl, q_non, q_str, q_var, q_bor, q_mov, q_bin, q_neg, q_cmp, q_not, q_and, q_or, q_ife, q_tup, q_lst, q_idx, q_slc, q_rev, q_fn, q_mt, q_lcStep, q_lc, q_dnew, q_dof, q_sg, q_sl, q_sp, q_nil, q_cons, q_oeno, q_oeyes, q_ocno, q_ocyes, q_tv, q_tand, q_tor, q_tnot, q_seq, q_rng1, q_rng2, q_zip, q_zips, outK_nx, outK_ret, outK_brk, outK_cnt, q_snil, q_scons, q_set, q_par, q_ifs, q_forStep, q_forr, q_whl, q_ret, q_retn, q_brk, q_cnt, q_pass, q_sw, retP_ret, retS_ret, ex_some, ex_none, ex_iteN, ex_map, ex_bind,
  rdVar, rdBor, rdMov, O.frz, List.getElem?_cons_zero, List.getElem?_cons_succ, St.set, List.set_cons_zero, List.set_cons_succ, Option.map_some, Option.map_none, Option.bind_some, Option.bind_none, isSrc, sget_left, sget_mixed, sget_turn, sput_left, sput_mixed, sput_turn, vw_d, vw_pt, vw_lst, cmp_lt, cmp_gt, cmp_le, cmp_ge, cmp_eqI, cmp_neI, bin_add, bin_sub, tru_b, boolO, intO, put, puts, O.slot, List.length_cons, List.length_nil, Nat.reduceAdd, Nat.reduceLT, Nat.reduceLeDiff, and_true, true_and, and_self, forall_const, true_implies, false_implies, reduceCtorEq, decide_eq_true_eq, decide_eq_false_iff_not, if_true, if_false, Int.reduceNeg, Option.some.injEq, primSem, vwAll, datAll, O.dat, implies_true, frzAll, vw, vw0, seqOf, mtTy, List.all_cons, List.all_nil, O.free, Bool.and_self, Bool.and_true, Bool.true_and, idx_list, idx_tup, clr, asg, asgs, List.length_map, stAt, Bool.not_true, Bool.not_false, Bool.false_eq_true])
theorem lc_pureM {α : Type} {f : PyData → St → Option (Option O × St)} {own : List Nat} {st : St} (h : α → PyData) (g : α → Option O) : ∀ (xs : List α), (∀ x ∈ xs, Ex (x := f (h x) st) fun r => r.1 = g x ∧ clr own r.2 = st) → lcLoop f own (xs.map h) st = some (xs.filterMap g, st)
  | [], _ => rfl
  | x :: xs, k => by
    obtain ⟨⟨o, s⟩, e, e1, e2⟩ := k x List.mem_cons_self
    have e1 : o = g x := e1
    have e2 : clr own s = st := e2
    rw [List.map_cons]
    unfold lcLoop
    rw [e, Option.bind_some]
    show (lcLoop f own (xs.map h) (clr own s)).map _ = _
    rw [e2, lc_pureM h g xs fun y hy => k y (List.mem_cons_of_mem _ hy), Option.map_some, List.filterMap_cons]
    subst e1
    cases g x <;> rfl
theorem datAll_d {α : Type} (f : α → PyData) : ∀ xs : List α, datAll (xs.map fun x => O.d (f x)) = some (xs.map f)
  | [] => rfl
  | x :: xs => by
    show ((datAll (xs.map fun x => O.d (f x))).map (f x :: ·)) = _
    rw [datAll_d f xs]
    rfl
def leT (a b : List Nat) : Bool := !PySem.W.dataLt (tm b) (tm a)
def srt (D : Poly) : List (List Nat) := (keys D).mergeSort leT
theorem srt_tm (D : Poly) : sortD ((kv D).map fun p => p.1.dat) = (srt D).map tm := by
  have e : ((kv D).map fun p => p.1.dat) = (keys D).map tm := by
    unfold kv keys
    rw [List.map_map, List.map_map]
    congr 1
    funext p
    exact dk_dat p.1
  rw [e]
  unfold sortD srt
  exact (List.map_mergeSort (f := tm) (r := leT) (s := fun a b => !PySem.W.dataLt b a) fun a _ b _ => rfl).symm
def toldP (D : Poly) : Poly := (srt D).filterMap fun k => match pget D k with
  | some c => if c = 0 then none else some (k, c)
  | none => none
theorem nums_eq (a : List Nat) : nums a = (a.map fun k : Nat => (k : Int)).map PyData.int := by
  unfold nums
  rw [List.map_map]
  rfl
theorem alike_nums (a b : List Nat) (_ : a.length = b.length) : PySem.W.alike (tm a) (tm b) = true := by
  unfold tm
  rw [nums_eq, nums_eq]
  simp only [PySem.W.alike]
  exact PySem.W.alike_ints _ _
theorem depth_nums : ∀ k : List Nat, PyData.depthAll (nums k) = 0
  | [] => rfl
  | k :: ks => by
    show max (PyData.depth (.int (k : Int))) (PyData.depthAll (nums ks)) = 0
    rw [depth_nums ks]
    rfl
theorem depth_tm (k : List Nat) : (tm k).depth ≤ 1 := by
  show PyData.depthAll (nums k) + 1 ≤ 1
  rw [depth_nums]
  exact Nat.le_refl _
theorem sortable_keys {n : Nat} (hn : 1 ≤ n) {D : Poly} (h : ∀ p ∈ D, p.1.length = n) : sortable ((kv D).map fun p => p.1.dat) = true := by
  have e : ((kv D).map fun p => p.1.dat) = (keys D).map tm := by
    unfold kv keys
    rw [List.map_map, List.map_map]
    congr 1
    funext p
    exact dk_dat p.1
  have hk : ∀ k ∈ keys D, k.length = n := fun k hk => by
    obtain ⟨p, hp, rfl⟩ := List.mem_map.1 hk
    exact h p hp
  rw [e]
  unfold sortable
  simp only [Bool.and_eq_true, List.all_eq_true, Bool.or_eq_true, decide_eq_true_eq]
  refine ⟨⟨?_, .inl ?_⟩, ?_⟩
  · intro x hx y hy
    obtain ⟨a, ha, rfl⟩ := List.mem_map.1 hx
    obtain ⟨b, hb, rfl⟩ := List.mem_map.1 hy
    exact alike_nums a b ((hk a ha).trans (hk b hb).symm)
  · intro x hx
    obtain ⟨a, ha, rfl⟩ := List.mem_map.1 hx
    cases a with
    | nil => have := hk _ ha; simp at this; omega
    | cons => rfl
  · intro x hx
    obtain ⟨a, ha, rfl⟩ := List.mem_map.1 hx
    exact Nat.le_trans (depth_tm a) (by decide)
def a_told : Ss := (.cons (.ret (.fn .tuple (.cons (.lc false (.tup (.cons (.var 1) (.cons (.idx (.bor 0) (.bor 1)) .nil))) (.nm 1) (.seq (.fn .sorted (.cons (.bor 0) .nil))) (.yes (.v (.cmp .ne (.idx (.bor 0) (.bor 1)) (.int 0)))) [1]) .nil))) .nil)
theorem idx_kv {D : Poly} {k : List Nat} {c : Int} (hk : k ≠ []) (h : pget D k = some c) : idxSem (.dct true (kv D)) (.d (tm k)) = some (.d (.int c)) := by
  show ((toDK (tm k)).bind fun q => if q.tk = true then (kvGet (kv D) q).map O.d else none) = _
  rw [toDK_tm hk, Option.bind_some, if_pos (show (dk k).tk = true from rfl), kvGet_kv, h]
  rfl
theorem mem_keys_pget {D : Poly} {k : List Nat} (h : k ∈ keys D) : ∃ c, pget D k = some c := by
  obtain ⟨p, hp, e⟩ := List.mem_map.1 h
  unfold pget
  cases hf : D.find? fun p => decide (p.1 = k) with
  | none => exact absurd (by simpa using e) (List.find?_eq_none.1 hf p hp)
  | some q => exact ⟨q.2, rfl⟩
theorem told_spec {Φ : Fs} {n : Nat} (hn : 1 ≤ n) {D : Poly} (h : ∀ p ∈ D, p.1.length = n) (hD : D.length ≤ sizeLine) : runP Φ 2 a_told [.fdct true (kv D)] = some (.pt (sm (toldP D))) := by
  apply Ex.get
  unfold a_told
  rw [q_runP]
  show Ex (x := evSs Φ _ ⟨[some (.fdct true (kv D)), none], none⟩) _
  and_intros
  refine ⟨sortable_keys hn h, ?_⟩
  rw [srt_tm]
  refine Ex.of (lc_pureM tm (fun k => match pget D k with | some c => if c = 0 then none else some (.d (.tuple [tm k, .int c])) | none => none) (srt D) fun k hk => ?_) ?_
  · have hk : k ∈ keys D := (List.mergeSort_perm _ _).mem_iff.1 hk
    obtain ⟨c, hc⟩ := mem_keys_pget hk
    have hk0 : k ≠ [] := by
      obtain ⟨p, hp, e⟩ := List.mem_map.1 hk
      intro z
      have := h p hp
      rw [e, z] at this
      simp at this
      omega
    and_intros
    rw [idx_kv hk0 hc]
    and_intros
    rw [idx_kv hk0 hc, hc]
    and_intros
    by_cases hc0 : c = 0 <;> simp [hc0, sizeLine_eq]
  · have e : ((srt D).filterMap fun k => match pget D k with | some c => if c = 0 then none else some (O.d (.tuple [tm k, .int c])) | none => none) = (toldP D).map fun p => O.d (.tuple [tm p.1, .int p.2]) := by
      unfold toldP
      rw [List.map_filterMap]
      congr 1
      funext k
      cases pget D k with
      | none => rfl
      | some c =>
        show (if c = 0 then none else _) = Option.map _ (if c = 0 then none else _)
        split <;> rfl
    rw [e]
    and_intros
    rw [datAll_d (fun p : List Nat × Int => PyData.tuple [tm p.1, .int p.2])]
    and_intros
    refine ⟨?_, ?_⟩
    · refine Nat.le_trans (List.length_filterMap_le _ _) ?_
      rw [show (srt D).length = (keys D).length from (List.mergeSort_perm _ _).length_eq]
      unfold keys
      rw [List.length_map]
      exact hD
    · rw [if_pos (show noKey ((toldP D).map fun p : List Nat × Int => PyData.tuple [tm p.1, .int p.2]) = true from noKey_sm (toldP D))]
      and_intros
      rfl
end Vm


set_option Elab.async false
set_option linter.all false
set_option maxRecDepth 100000
set_option maxHeartbeats 4000000
/-! Vm, part 32: the order of terms; what is told does not depend on the order of the dict. -/
namespace Vm
open PySem PySem.Spec PyProof.Rows L2

def zs (a : List Nat) : List Int := a.map fun k : Nat => (k : Int)
theorem zs_inj : ∀ {a b : List Nat}, zs a = zs b → a = b
  | [], [], _ => rfl
  | [], _ :: _, h => by cases h
  | _ :: _, [], h => by cases h
  | x :: xs, y :: ys, h => by
    unfold zs at h
    simp only [List.map_cons, List.cons.injEq] at h
    rw [zs_inj (a := xs) (b := ys) h.2]
    have := h.1
    rw [show x = y by omega]
theorem lt_tm (a b : List Nat) : PySem.W.dataLt (tm a) (tm b) = decide (zs a < zs b) := by
  unfold tm
  rw [PySem.W.dataLt_tuple, nums_eq, nums_eq]
  exact PySem.W.dataLt_ints (zs a) (zs b)
theorem leT_iff (a b : List Nat) : leT a b = true ↔ zs a ≤ zs b := by
  unfold leT
  rw [lt_tm]
  simp [List.not_lt]
theorem leT_trans (a b c : List Nat) (h : leT a b = true) (k : leT b c = true) : leT a c = true := by
  rw [leT_iff] at *
  exact List.le_trans h k
theorem leT_total (a b : List Nat) : (leT a b || leT b a) = true := by
  rw [Bool.or_eq_true, leT_iff, leT_iff]
  exact List.le_total _ _
theorem leT_anti (a b : List Nat) (h : leT a b = true) (k : leT b a = true) : a = b := by
  rw [leT_iff] at *
  exact zs_inj (List.le_antisymm h k)
theorem srt_congr {D E : Poly} (h : (keys D).Perm (keys E)) : srt D = srt E := by
  unfold srt
  refine List.Perm.eq_of_pairwise (le := fun a b => leT a b = true) (fun a b _ _ => leT_anti a b) ?_ ?_ ?_
  · exact List.pairwise_mergeSort leT_trans leT_total _
  · exact List.pairwise_mergeSort leT_trans leT_total _
  · exact ((List.mergeSort_perm _ _).trans h).trans (List.mergeSort_perm _ _).symm
theorem toldP_congr {D E : Poly} (h : (keys D).Perm (keys E)) (g : ∀ k, pget D k = pget E k) : toldP D = toldP E := by
  unfold toldP
  rw [srt_congr h]
  congr 1
  funext k
  rw [g k]
end Vm


set_option Elab.async false
set_option linter.all false
set_option maxRecDepth 100000
set_option maxHeartbeats 4000000
/-! Vm, part 33: numbers added up in a dict by terms. -/
namespace Vm
open PySem PySem.Spec PyProof.Rows L2

def val (D : Poly) (k : List Nat) : Int := (pget D k).getD 0
def acc1 (D : Poly) (p : List Nat × Int) : Poly := pput D p.1 (val D p.1 + p.2)
def acc (L D : Poly) : Poly := L.foldl acc1 D
def tot (k : List Nat) (L : Poly) : Int := (L.map fun p : List Nat × Int => if p.1 = k then p.2 else 0).sum
theorem val_acc (k : List Nat) : ∀ (L D : Poly), val (acc L D) k = val D k + tot k L
  | [], D => by show val D k = val D k + 0; omega
  | p :: L, D => by
    show val (acc L (acc1 D p)) k = _
    rw [val_acc k L]
    have e : val (acc1 D p) k = val D k + if p.1 = k then p.2 else 0 := by
      unfold acc1
      show (pget (pput D p.1 _) k).getD 0 = _
      rw [pget_pput]
      by_cases h : p.1 = k
      · rw [if_pos h, if_pos h, h]; rfl
      · rw [if_neg h, if_neg h, Int.add_zero]; rfl
    have t : tot k (p :: L) = (if p.1 = k then p.2 else 0) + tot k L := by
      unfold tot
      rw [List.map_cons, List.sum_cons]
    rw [e, t, Int.add_assoc]
theorem acc_nodup : ∀ (L D : Poly), (keys D).Nodup → (keys (acc L D)).Nodup
  | [], _, h => h
  | p :: L, D, h => acc_nodup L (acc1 D p) (pput_nodup h _ _)
theorem acc_mem (k : List Nat) : ∀ (L D : Poly), k ∈ keys (acc L D) ↔ k ∈ keys D ∨ k ∈ keys L
  | [], D => by
    show k ∈ keys D ↔ k ∈ keys D ∨ k ∈ []
    simp
  | p :: L, D => by
    show k ∈ keys (acc L (acc1 D p)) ↔ _
    rw [acc_mem k L]
    have e : k ∈ keys (acc1 D p) ↔ k ∈ keys D ∨ k = p.1 := by
      unfold acc1
      rw [pput_keys]
      split
      · next h => exact ⟨.inl, fun z => z.elim id fun e => e ▸ h⟩
      · rw [List.mem_append, List.mem_singleton]
    rw [e]
    show _ ↔ k ∈ keys D ∨ k ∈ p.1 :: keys L
    rw [List.mem_cons, or_assoc]
theorem pget_none {D : Poly} {k : List Nat} (h : k ∉ keys D) : pget D k = none := by
  unfold pget
  have : (D.find? fun p => decide (p.1 = k)) = none := by
    rw [List.find?_eq_none]
    intro p hp hq
    exact h (List.mem_map.2 ⟨p, hp, by simpa using hq⟩)
  rw [this]
  rfl
theorem pget_val (D : Poly) (k : List Nat) : pget D k = if k ∈ keys D then some (val D k) else none := by
  split
  · next h =>
    obtain ⟨c, e⟩ := mem_keys_pget h
    unfold val
    rw [e]
    rfl
  · next h => exact pget_none h
theorem sum_perm {a b : List Int} (h : a.Perm b) : a.sum = b.sum := by
  induction h with
  | nil => rfl
  | cons x _ ih => rw [List.sum_cons, List.sum_cons, ih]
  | swap x y l => simp only [List.sum_cons]; omega
  | trans _ _ h1 h2 => exact h1.trans h2
theorem tot_perm {L M : Poly} (h : L.Perm M) (k : List Nat) : tot k L = tot k M := by
  unfold tot
  exact sum_perm (h.map _)
theorem toldP_acc {L M : Poly} (h : L.Perm M) : toldP (acc L []) = toldP (acc M []) := by
  have m : ∀ k, k ∈ keys (acc L []) ↔ k ∈ keys (acc M []) := fun k => by
    rw [acc_mem, acc_mem]
    exact or_congr Iff.rfl (h.map _).mem_iff
  refine toldP_congr ((List.perm_ext_iff_of_nodup (acc_nodup L [] List.nodup_nil) (acc_nodup M [] List.nodup_nil)).2 m) fun k => ?_
  rw [pget_val, pget_val, val_acc, val_acc, tot_perm h]
  by_cases q : k ∈ keys (acc L [])
  · rw [if_pos q, if_pos ((m k).1 q)]
  · rw [if_neg q, if_neg fun z => q ((m k).2 z)]
end Vm


set_option Elab.async false
set_option linter.all false
set_option maxRecDepth 100000
set_option maxHeartbeats 4000000
/-! Vm, part 34: more of numbers added up by terms. -/
namespace Vm
open PySem PySem.Spec PyProof.Rows L2

theorem pput_new {D : Poly} {k : List Nat} (h : k ∉ keys D) (c : Int) : pput D k c = D ++ [(k, c)] := by
  unfold pput
  rw [if_neg]
  intro z
  obtain ⟨p, hp, hq⟩ := List.any_eq_true.1 z
  exact h (List.mem_map.2 ⟨p, hp, by simpa using hq⟩)
theorem keys_append (D E : Poly) : keys (D ++ E) = keys D ++ keys E := List.map_append
theorem mkD_new : ∀ (P D : Poly), (keys (D ++ P)).Nodup → mkD P D = D ++ P
  | [], D, _ => by rw [List.append_nil]; rfl
  | p :: P, D, h => by
    show mkD P (pput D p.1 p.2) = _
    have n : p.1 ∉ keys D := fun z => by
      rw [keys_append, List.nodup_append] at h
      exact h.2.2 p.1 z p.1 (List.mem_map.2 ⟨p, List.mem_cons_self, rfl⟩) rfl
    have e : D ++ [(p.1, p.2)] ++ P = D ++ p :: P := by rw [List.append_assoc]; rfl
    rw [pput_new n, mkD_new P _ (by rw [e]; exact h), e]
theorem acc_new : ∀ (P D : Poly), (keys (D ++ P)).Nodup → acc P D = D ++ P
  | [], D, _ => by rw [List.append_nil]; rfl
  | p :: P, D, h => by
    show acc P (acc1 D p) = _
    have n : p.1 ∉ keys D := fun z => by
      rw [keys_append, List.nodup_append] at h
      exact h.2.2 p.1 z p.1 (List.mem_map.2 ⟨p, List.mem_cons_self, rfl⟩) rfl
    have e : D ++ [(p.1, p.2)] ++ P = D ++ p :: P := by rw [List.append_assoc]; rfl
    have v : acc1 D p = D ++ [(p.1, p.2)] := by
      unfold acc1 val
      rw [pget_none n, pput_new n]
      show D ++ [(p.1, 0 + p.2)] = _
      rw [Int.zero_add]
    rw [v, acc_new P _ (by rw [e]; exact h), e]
theorem val_tot {P : Poly} (h : (keys P).Nodup) (k : List Nat) : val P k = tot k P := by
  have := val_acc k P []
  rw [acc_new P [] h] at this
  rw [show ([] : Poly) ++ P = P from rfl] at this
  rw [this]
  show 0 + _ = _
  exact Int.zero_add _
theorem tot_neg (k : List Nat) : ∀ P : Poly, tot k (P.map fun p : List Nat × Int => (p.1, -1 * p.2)) = - tot k P
  | [] => rfl
  | p :: P => by
    have ih := tot_neg k P
    unfold tot at ih ⊢
    rw [List.map_cons, List.map_cons, List.map_cons, List.sum_cons, List.sum_cons, ih]
    show (if p.1 = k then -1 * p.2 else 0) + _ = _
    split <;> omega
theorem toldP_zero {D : Poly} (h : ∀ k, val D k = 0) : toldP D = [] := by
  unfold toldP
  rw [List.filterMap_eq_nil_iff]
  intro k _
  rw [pget_val, h k]
  by_cases q : k ∈ keys D
  · rw [if_pos q]; rfl
  · rw [if_neg q]
theorem toldP_minus {P : Poly} (h : (keys P).Nodup) : toldP (acc (P.map fun p : List Nat × Int => (p.1, -1 * p.2)) (mkD P [])) = [] := by
  refine toldP_zero fun k => ?_
  rw [val_acc, mkD_new P [] h, tot_neg]
  rw [show ([] : Poly) ++ P = P from rfl, val_tot h]
  omega
/-- what is told: right terms, numbers not 0, no term twice -/
theorem toldP_mem {D : Poly} {p : List Nat × Int} (h : p ∈ toldP D) : p.1 ∈ keys D ∧ pget D p.1 = some p.2 ∧ p.2 ≠ 0 := by
  unfold toldP at h
  obtain ⟨k, hk, e⟩ := List.mem_filterMap.1 h
  have hk : k ∈ keys D := (List.mergeSort_perm _ _).mem_iff.1 hk
  split at e
  · next c hc =>
    split at e
    · cases e
    · next hn =>
      cases e
      exact ⟨hk, hc, hn⟩
  · cases e
theorem toldP_sorted {D : Poly} (hn : (keys D).Nodup) : (keys (toldP D)).Pairwise fun a b => zs a < zs b := by
  have s1 : (srt D).Pairwise fun a b => zs a < zs b := by
    have a1 : (srt D).Pairwise fun a b => leT a b = true := List.pairwise_mergeSort leT_trans leT_total _
    have a2 : (srt D).Pairwise fun a b => a ≠ b := ((List.mergeSort_perm (keys D) leT).nodup_iff).2 hn
    refine (a1.and a2).imp fun {a b} h => ?_
    have h1 := (leT_iff a b).1 h.1
    exact Std.lt_of_le_of_ne h1 fun e => h.2 (zs_inj e)
  have e : keys (toldP D) = (srt D).filterMap fun k => match pget D k with
    | some c => if c = 0 then none else some k
    | none => none := by
    unfold toldP keys
    rw [List.map_filterMap]
    congr 1
    funext k
    cases pget D k with
    | none => rfl
    | some c =>
      show Option.map _ (if c = 0 then none else _) = (if c = 0 then none else _)
      split <;> rfl
  rw [e]
  refine List.Pairwise.filterMap _ ?_ s1
  intro a b hab x hx y hy
  split at hx
  · split at hx
    · cases hx
    · cases hx
      split at hy
      · split at hy
        · cases hy
        · cases hy; exact hab
      · cases hy
  · cases hx
end Vm


set_option Elab.async false
set_option linter.all false
set_option maxRecDepth 100000
set_option maxHeartbeats 4000000
/-! Vm, part 35: a list and the empty list. -/
namespace Vm
open PySem PySem.Spec PyProof.Rows L2

theorem eqD_nil (xs : List PyData) : eqD (.list xs) (.list []) = some xs.isEmpty := by
  unfold eqD
  cases xs with
  | nil => rfl
  | cons x xs =>
    split
    · rfl
    · rfl
end Vm


set_option Elab.async false
set_option linter.all false
set_option maxRecDepth 100000
set_option maxHeartbeats 4000000
/-! Vm, part 36: loops over lists of plain things, by what was gone through. -/
namespace Vm
open PySem PySem.Spec PyProof.Rows L2

theorem for_pre {α : Type} (h : α → PyData) {f : PyData → St → Option Out} {Q : Out → Prop} (J : List α → St → Prop) (xs : List α) (s : St) (h0 : J [] s)
    (hx : ∀ d x r s, xs = d ++ x :: r → J d s → Ex (x := f (h x) s) fun o => match o with
      | .nx s' => J (d ++ [x]) s'
      | .cnt s' => J (d ++ [x]) s'
      | .brk s' => Q (.nx s')
      | .ret o s' => Q (.ret o s')) (hn : ∀ s, J xs s → Q (.nx s)) : Ex (x := forLoop f (xs.map h) s) Q := by
  have go : ∀ (r d : List α) (s : St), xs = d ++ r → J d s → Ex (x := forLoop f (r.map h) s) Q := by
    intro r
    induction r with
    | nil =>
      intro d s e j
      rw [List.append_nil] at e
      subst e
      rw [List.map_nil]
      unfold forLoop
      rw [ex_some]
      exact hn s j
    | cons x r ih =>
      intro d s e j
      obtain ⟨o, e1, k⟩ := hx d x r s e j
      rw [List.map_cons]
      unfold forLoop
      rw [e1]
      have e2 : xs = (d ++ [x]) ++ r := by rw [List.append_assoc]; exact e
      cases o with
      | nx s' => exact ih (d ++ [x]) s' e2 k
      | cnt s' => exact ih (d ++ [x]) s' e2 k
      | brk s' => exact .of rfl k
      | ret o s' => exact .of rfl k
  exact go xs [] s rfl h0
theorem lc_pre {α : Type} (h : α → PyData) {f : PyData → St → Option (Option O × St)} {own : List Nat} {Q : List O × St → Prop} (J : List α → List O → St → Prop) (xs : List α) (s : St) (h0 : J [] [] s)
    (hx : ∀ d x r os s, xs = d ++ x :: r → J d os s → Ex (x := f (h x) s) fun o => J (d ++ [x]) (os ++ o.1.toList) (clr own o.2)) (hn : ∀ os s, J xs os s → Q (os, s)) : Ex (x := lcLoop f own (xs.map h) s) Q := by
  have go : ∀ (r d : List α) (os : List O) (s : St), xs = d ++ r → J d os s → Ex (x := lcLoop f own (r.map h) s) fun q => Q (os ++ q.1, q.2) := by
    intro r
    induction r with
    | nil =>
      intro d os s e j
      rw [List.append_nil] at e
      subst e
      rw [List.map_nil]
      unfold lcLoop
      rw [ex_some, List.append_nil]
      exact hn os s j
    | cons x r ih =>
      intro d os s e j
      obtain ⟨⟨o, s1⟩, e1, k⟩ := hx d x r os s e j
      rw [List.map_cons]
      unfold lcLoop
      rw [e1, Option.bind_some]
      have e2 : xs = (d ++ [x]) ++ r := by rw [List.append_assoc]; exact e
      show Ex (x := (lcLoop f own (r.map h) (clr own s1)).map _) _
      rw [ex_map]
      refine (ih (d ++ [x]) _ _ e2 k).mono fun q hq => ?_
      rw [List.append_assoc] at hq
      exact hq
  have := go xs [] [] s rfl h0
  exact this
end Vm


set_option Elab.async false
set_option linter.all false
set_option maxRecDepth 100000
set_option maxHeartbeats 4000000
/-! Vm, part 37: values that may be anything: what can be shown, what type they are. -/
namespace Vm
open PySem PySem.Spec PyProof.Rows L2

mutual
/-- made of None, bools, whole numbers below B, texts, lists, tuples, empty dicts -/
def okV (B : Nat) : PyData → Bool
  | .none => true
  | .bool _ => true
  | .int i => decide (i.natAbs < B)
  | .str x => PyData.strOk x && PyData.strOk (reprText x)
  | .list xs => okVs B xs
  | .tuple xs => okVs B xs
  | .dict kvs => kvs.isEmpty
def okVs (B : Nat) : List PyData → Bool
  | [] => true
  | x :: xs => okV B x && okVs B xs
end
theorem okVs_iff (B : Nat) : ∀ xs : List PyData, okVs B xs = true ↔ ∀ x ∈ xs, okV B x = true
  | [] => by simp [okVs]
  | x :: xs => by
    rw [okVs, Bool.and_eq_true, okVs_iff B xs]
    simp
mutual
theorem okV.mono {B C : Nat} (h : B ≤ C) : ∀ d : PyData, okV B d = true → okV C d = true
  | .none, _ => rfl
  | .bool _, _ => rfl
  | .int i, k => by
    simp only [okV, decide_eq_true_eq] at k ⊢
    omega
  | .str x, k => by simpa only [okV] using k
  | .list xs, k => by simp only [okV] at k ⊢; exact okVs.mono h xs k
  | .tuple xs, k => by simp only [okV] at k ⊢; exact okVs.mono h xs k
  | .dict _, k => by simpa only [okV] using k
theorem okVs.mono {B C : Nat} (h : B ≤ C) : ∀ xs : List PyData, okVs B xs = true → okVs C xs = true
  | [], _ => rfl
  | x :: xs, k => by
    rw [okVs, Bool.and_eq_true] at k ⊢
    exact ⟨okV.mono h x k.1, okVs.mono h xs k.2⟩
end
theorem shown_int_le38 {i : Int} (h : i.natAbs < 10 ^ 38) : (PyData.shown (.int i)).length ≤ 40 := by
  have e := int_text_length_le10 (k := 38) (by decide) h
  show (Str.ofString (toString i)).length ≤ 40
  rw [PySem.ofString_length]; omega
mutual
theorem okV.short : ∀ d : PyData, okV (10 ^ 38) d = true → d.leavesShort 40 = true
  | .none, _ => rfl
  | .bool _, _ => rfl
  | .int i, k => by
    simp only [okV, decide_eq_true_eq] at k
    simp only [PyData.leavesShort, decide_eq_true_eq]
    exact shown_int_le38 k
  | .str x, k => PyData.leavesShort_of_canLay0 40 (.str x) (by rw [okV, Bool.and_eq_true] at k; simpa only [PyData.canLay0] using k.1) (by simp only [PyData.intsShort])
  | .list xs, k => by simp only [okV] at k; simp only [PyData.leavesShort]; exact okVs.short xs k
  | .tuple xs, k => by simp only [okV] at k; simp only [PyData.leavesShort]; exact okVs.short xs k
  | .dict [], _ => rfl
  | .dict (_ :: _), k => by simp [okV] at k
theorem okVs.short : ∀ xs : List PyData, okVs (10 ^ 38) xs = true → PyData.leavesShortAll 40 xs = true
  | [], _ => rfl
  | x :: xs, k => by
    rw [okVs, Bool.and_eq_true] at k
    rw [PyData.leavesShortAll, Bool.and_eq_true]
    exact ⟨okV.short x k.1, okVs.short xs k.2⟩
end
mutual
theorem okV.showable : ∀ d : PyData, okV (10 ^ 38) d = true → d.showable = true
  | .none, _ => rfl
  | .bool _, _ => rfl
  | .int i, k => by
    simp only [okV, decide_eq_true_eq] at k
    simp only [PyData.showable, decide_eq_true_eq]
    by_cases h : i.natAbs = 0
    · rw [h]; decide
    · exact Nat.lt_of_lt_of_le ((Nat.log2_lt h).2 (Nat.lt_of_lt_of_le k (show 10 ^ 38 ≤ 2 ^ 130 by decide))) (by decide)
  | .str _, _ => rfl
  | .list xs, k => by simp only [okV] at k; simp only [PyData.showable]; exact okVs.showable xs k
  | .tuple xs, k => by simp only [okV] at k; simp only [PyData.showable]; exact okVs.showable xs k
  | .dict [], _ => rfl
  | .dict (_ :: _), k => by simp [okV] at k
theorem okVs.showable : ∀ xs : List PyData, okVs (10 ^ 38) xs = true → PyData.showableAll xs = true
  | [], _ => rfl
  | x :: xs, k => by
    rw [okVs, Bool.and_eq_true] at k
    rw [PyData.showableAll, Bool.and_eq_true]
    exact ⟨okV.showable x k.1, okVs.showable xs k.2⟩
end
/-- it can be shown -/
structure Fine (x : PyData) (d b : Nat) : Prop where
  ok : okV (10 ^ 38) x = true
  dep : x.depth ≤ d
  blk : x.bulk ≤ b
  nod : x.hasDict = false ∨ nolst x = true
theorem Fine.mono {x : PyData} {d b d' b' : Nat} (h : Fine x d b) (hd : d ≤ d') (hb : b ≤ b') : Fine x d' b' := ⟨h.ok, Nat.le_trans h.dep hd, Nat.le_trans h.blk hb, h.nod⟩
theorem Fine.repr {x : PyData} {d b : Nat} (h : Fine x d b) (hd : d ≤ 40) (hb : b ≤ 390000) : primSem .repr [.d x] = some (.d (.str x.shown)) := by
  have h1 := PyData.shown_le_bulk 40 (by decide) x (okV.short x h.ok)
  have h2 : x.shown.length ≤ sizeLine := by
    have := h.blk
    have : (40 + 2) * x.bulk ≤ 42 * 390000 := Nat.mul_le_mul (by decide) (by omega)
    rw [sizeLine_eq]
    omega
  show (if x.showable && decide (x.depth ≤ 40) && decide (x.shown.length ≤ sizeLine) && (!x.hasDict || nolst x) then some (O.d (.str x.shown)) else none) = _
  rw [if_pos]
  simp only [Bool.and_eq_true, decide_eq_true_eq, Bool.or_eq_true, Bool.not_eq_true']
  exact ⟨⟨⟨okV.showable x h.ok, Nat.le_trans h.dep hd⟩, h2⟩, h.nod⟩
/-! lists of such things -/
theorem depthAll_le {c : Nat} : ∀ xs : List PyData, (∀ x ∈ xs, x.depth ≤ c) → PyData.depthAll xs ≤ c
  | [], _ => by simp [PyData.depthAll]
  | x :: xs, h => by
    rw [PyData.depthAll]
    exact Nat.max_le.2 ⟨h x List.mem_cons_self, depthAll_le xs fun y hy => h y (List.mem_cons_of_mem _ hy)⟩
theorem depthAll_mem {x : PyData} : ∀ {xs : List PyData}, x ∈ xs → x.depth ≤ PyData.depthAll xs
  | y :: ys, h => by
    rw [PyData.depthAll]
    rcases List.mem_cons.1 h with rfl | h
    · exact Nat.le_max_left _ _
    · exact Nat.le_trans (depthAll_mem h) (Nat.le_max_right _ _)
theorem bulkAll_le {c : Nat} : ∀ xs : List PyData, (∀ x ∈ xs, x.bulk ≤ c) → PyData.bulkAll xs ≤ xs.length * (c + 1)
  | [], _ => by simp [PyData.bulkAll]
  | x :: xs, h => by
    rw [PyData.bulkAll]
    have h1 := h x List.mem_cons_self
    have h2 := bulkAll_le xs fun y hy => h y (List.mem_cons_of_mem _ hy)
    rw [List.length_cons, Nat.add_mul]
    omega
theorem bulkAll_append : ∀ xs ys : List PyData, PyData.bulkAll (xs ++ ys) = PyData.bulkAll xs + PyData.bulkAll ys
  | [], ys => by simp [PyData.bulkAll]
  | x :: xs, ys => by
    rw [List.cons_append, PyData.bulkAll, PyData.bulkAll, bulkAll_append xs ys]
    omega
theorem bulkAll_len : ∀ xs : List PyData, xs.length ≤ PyData.bulkAll xs
  | [] => Nat.zero_le _
  | x :: xs => by
    rw [PyData.bulkAll, List.length_cons]
    have := bulkAll_len xs
    omega
theorem bulkAll_mem {x : PyData} : ∀ {xs : List PyData}, x ∈ xs → x.bulk + 1 ≤ PyData.bulkAll xs
  | y :: ys, h => by
    rw [PyData.bulkAll]
    rcases List.mem_cons.1 h with rfl | h
    · omega
    · have := bulkAll_mem h; omega
theorem hasDictAll_iff : ∀ xs : List PyData, PyData.hasDictAll xs = false ↔ ∀ x ∈ xs, x.hasDict = false
  | [] => by simp [PyData.hasDictAll]
  | x :: xs => by
    rw [PyData.hasDictAll, Bool.or_eq_false_iff, hasDictAll_iff xs]
    simp
theorem nolsts_iff : ∀ xs : List PyData, nolsts xs = true ↔ ∀ x ∈ xs, nolst x = true
  | [] => by simp [nolsts]
  | x :: xs => by
    rw [nolsts, Bool.and_eq_true, nolsts_iff xs]
    simp
/-- plain: no dict in it -/
structure Pl (x : PyData) (d b : Nat) : Prop where
  ok : okV (10 ^ 38) x = true
  dep : x.depth ≤ d
  blk : x.bulk ≤ b
  nod : x.hasDict = false
theorem Pl.fine {x : PyData} {d b : Nat} (h : Pl x d b) : Fine x d b := ⟨h.ok, h.dep, h.blk, .inl h.nod⟩
theorem Pl.mono {x : PyData} {d b d' b' : Nat} (h : Pl x d b) (hd : d ≤ d') (hb : b ≤ b') : Pl x d' b' := ⟨h.ok, Nat.le_trans h.dep hd, Nat.le_trans h.blk hb, h.nod⟩
theorem Pl.int {i : Int} (h : i.natAbs < 10 ^ 38) : Pl (.int i) 0 0 := ⟨by rw [okV]; exact decide_eq_true h, by rw [PyData.depth]; exact Nat.le_refl _, by rw [PyData.bulk]; exact Nat.le_refl _, by rw [PyData.hasDict]⟩
theorem Pl.bool (b : Bool) : Pl (.bool b) 0 0 := ⟨by rw [okV], by rw [PyData.depth]; exact Nat.le_refl _, by rw [PyData.bulk]; exact Nat.le_refl _, by rw [PyData.hasDict]⟩
theorem Pl.none : Pl .none 0 0 := ⟨by rw [okV], by rw [PyData.depth]; exact Nat.le_refl _, by rw [PyData.bulk]; exact Nat.le_refl _, by rw [PyData.hasDict]⟩
theorem Pl.list {xs : List PyData} {d b m : Nat} (h : ∀ x ∈ xs, Pl x d b) (hl : xs.length ≤ m) : Pl (.list xs) (d + 1) (m * (b + 1)) := by
  refine ⟨?_, ?_, ?_, ?_⟩
  · rw [okV, okVs_iff]; exact fun x hx => (h x hx).ok
  · rw [PyData.depth]; exact Nat.succ_le_succ (depthAll_le xs fun x hx => (h x hx).dep)
  · rw [PyData.bulk]
    exact Nat.le_trans (bulkAll_le xs fun x hx => (h x hx).blk) (Nat.mul_le_mul_right _ hl)
  · rw [PyData.hasDict, hasDictAll_iff]; exact fun x hx => (h x hx).nod
theorem Pl.tup {xs : List PyData} {d b m : Nat} (h : ∀ x ∈ xs, Pl x d b) (hl : xs.length ≤ m) : Pl (.tuple xs) (d + 1) (m * (b + 1)) := by
  refine ⟨?_, ?_, ?_, ?_⟩
  · rw [okV, okVs_iff]; exact fun x hx => (h x hx).ok
  · rw [PyData.depth]; exact Nat.succ_le_succ (depthAll_le xs fun x hx => (h x hx).dep)
  · rw [PyData.bulk]
    exact Nat.le_trans (bulkAll_le xs fun x hx => (h x hx).blk) (Nat.mul_le_mul_right _ hl)
  · rw [PyData.hasDict, hasDictAll_iff]; exact fun x hx => (h x hx).nod
theorem eqD_str (x y : Str) (hx : PyData.strOk x = true) (hy : PyData.strOk y = true) : eqD (.str x) (.str y) = some (x == y) := by
  unfold eqD
  rw [show SeqAt.shaped (.str x) = true by unfold SeqAt.shaped; rw [PyData.canLay0, hx, PyData.depth]; rfl, show SeqAt.shaped (.str y) = true by unfold SeqAt.shaped; rw [PyData.canLay0, hy, PyData.depth]; rfl]
  show some (PyData.eqv (.str x) (.str y)) = _
  rw [PyData.eqv]
/-! types -/
theorem kb_nt : kitB "NoneType" "tuple" = some false := by decide +kernel
theorem kb_bt : kitB "bool" "tuple" = some false := by decide +kernel
theorem kb_it : kitB "int" "tuple" = some false := by decide +kernel
theorem kb_st : kitB "str" "tuple" = some false := by decide +kernel
theorem kb_lt : kitB "list" "tuple" = some false := by decide +kernel
theorem kb_tt : kitB "tuple" "tuple" = some true := by decide +kernel
theorem kb_dt : kitB "dict" "tuple" = some false := by decide +kernel
theorem kb_ni : kitB "NoneType" "int" = some false := by decide +kernel
theorem kb_bi : kitB "bool" "int" = some true := by decide +kernel
theorem kb_ii : kitB "int" "int" = some true := by decide +kernel
theorem kb_si : kitB "str" "int" = some false := by decide +kernel
theorem kb_li : kitB "list" "int" = some false := by decide +kernel
theorem kb_ti : kitB "tuple" "int" = some false := by decide +kernel
theorem kb_di : kitB "dict" "int" = some false := by decide +kernel
theorem kb_nb : kitB "NoneType" "bool" = some false := by decide +kernel
theorem kb_bb : kitB "bool" "bool" = some true := by decide +kernel
theorem kb_ib : kitB "int" "bool" = some false := by decide +kernel
theorem kb_sb : kitB "str" "bool" = some false := by decide +kernel
theorem kb_lb : kitB "list" "bool" = some false := by decide +kernel
theorem kb_tb : kitB "tuple" "bool" = some false := by decide +kernel
theorem kb_db : kitB "dict" "bool" = some false := by decide +kernel
def isTup : PyData → Bool
  | .tuple _ => true
  | _ => false
def isZ : PyData → Bool
  | .int _ => true
  | _ => false
def isBl : PyData → Bool
  | .bool _ => true
  | _ => false
theorem isi_of {T t : String} {u : Vw} {b : Bool} (ht : tyOf u = some t) (hb : kitB t T = some b) : primSem (.isi T) [u] = some (.d (.bool b)) := by
  show ((tyOf u).bind fun t => (kitB t T).map fun b => O.d (.bool b)) = _
  rw [ht, Option.bind_some, hb, Option.map_some]
theorem isi_tup {B : Nat} {x : PyData} (h : okV B x = true) : primSem (.isi "tuple") [.d x] = some (.d (.bool (isTup x))) := by
  cases x with
  | none => exact isi_of rfl kb_nt
  | bool b => exact isi_of rfl kb_bt
  | int i => exact isi_of rfl kb_it
  | str s => exact isi_of rfl kb_st
  | list xs => exact isi_of rfl kb_lt
  | tuple xs => exact isi_of rfl kb_tt
  | dict kvs =>
    cases kvs with
    | nil => exact isi_of rfl kb_dt
    | cons => simp [okV] at h
theorem isi_int {B : Nat} {x : PyData} (h : okV B x = true) : primSem (.isi "int") [.d x] = some (.d (.bool (isZ x || isBl x))) := by
  cases x with
  | none => exact isi_of rfl kb_ni
  | bool b => exact isi_of rfl kb_bi
  | int i => exact isi_of rfl kb_ii
  | str s => exact isi_of rfl kb_si
  | list xs => exact isi_of rfl kb_li
  | tuple xs => exact isi_of rfl kb_ti
  | dict kvs =>
    cases kvs with
    | nil => exact isi_of rfl kb_di
    | cons => simp [okV] at h
theorem isi_bl {B : Nat} {x : PyData} (h : okV B x = true) : primSem (.isi "bool") [.d x] = some (.d (.bool (isBl x))) := by
  cases x with
  | none => exact isi_of rfl kb_nb
  | bool b => exact isi_of rfl kb_bb
  | int i => exact isi_of rfl kb_ib
  | str s => exact isi_of rfl kb_sb
  | list xs => exact isi_of rfl kb_lb
  | tuple xs => exact isi_of rfl kb_tb
  | dict kvs =>
    cases kvs with
    | nil => exact isi_of rfl kb_db
    | cons => simp [okV] at h
theorem boolsOf_map {α : Type} (f : α → Bool) : ∀ xs : List α, boolsOf (xs.map fun x => .bool (f x)) = some (xs.map f)
  | [] => rfl
  | x :: xs => by
    show (boolsOf (xs.map fun x => PyData.bool (f x))).map _ = _
    rw [boolsOf_map f xs]
    rfl
theorem intsOf_map {α : Type} (f : α → Int) : ∀ xs : List α, intsOf (xs.map fun x => .int (f x)) = some (xs.map f)
  | [] => rfl
  | x :: xs => by
    show (intsOf (xs.map fun x => PyData.int (f x))).map _ = _
    rw [intsOf_map f xs]
    rfl
end Vm


set_option Elab.async false
set_option linter.all false
set_option maxRecDepth 100000
set_option maxHeartbeats 4000000
/-! Vm, part 38: built-in functions, case by case. -/
namespace Vm
open PySem PySem.Spec PyProof.Rows L2

theorem cmp_eqNil (xs : List PyData) : cmpSem .eq (.d (.list xs)) (.d (.list [])) = some xs.isEmpty := eqD_nil xs
theorem cmp_neNil (xs : List PyData) : cmpSem .ne (.d (.list xs)) (.d (.list [])) = some (!xs.isEmpty) := by
  show (eqD (.list xs) (.list [])).map (!·) = _
  rw [eqD_nil]; rfl
section
variable (xs : List PyData) (x : PyData) (i j : Int) (b c : Bool) (t : Bool) (kvs : KVs)
theorem pr_lenL : primSem .len [.d (.list xs)] = some (.d (.int xs.length)) := rfl
theorem pr_lenH : primSem .len [.h (.list xs)] = some (.d (.int xs.length)) := rfl
theorem pr_lenT : primSem .len [.d (.tuple xs)] = some (.d (.int xs.length)) := rfl
theorem pr_lenD : primSem .len [.dct t kvs] = some (.d (.int kvs.length)) := rfl
theorem pr_abs : primSem .abs [.d (.int i)] = some (.d (.int (if i < 0 then -i else i))) := rfl
theorem pr_intI : primSem .int [.d (.int i)] = some (.d (.int i)) := rfl
theorem pr_intB : primSem .int [.d (.bool b)] = some (.d (.int (if b then 1 else 0))) := rfl
theorem pr_all : primSem .all [.d (.list xs)] = (boolsOf xs).map fun bs => .d (.bool (bs.all id)) := rfl
theorem pr_any : primSem .any [.d (.list xs)] = (boolsOf xs).map fun bs => .d (.bool (bs.any id)) := rfl
theorem pr_sum : primSem .sum [.d (.list xs)] = (intsOf xs).map fun ns => .d (.int ns.sum) := rfl
theorem pr_max : primSem .max [.d (.list xs)] = (intsOf xs).bind fun ns => ns.max?.map fun m => .d (.int m) := rfl
theorem pr_min : primSem .min [.d (.list xs)] = (intsOf xs).bind fun ns => ns.min?.map fun m => .d (.int m) := rfl
theorem pr_max2 : primSem .max2 [.d (.int i), .d (.int j)] = some (.d (.int (if j > i then j else i))) := rfl
theorem pr_min2 : primSem .min2 [.d (.int i), .d (.int j)] = some (.d (.int (if j < i then j else i))) := rfl
theorem pr_tupL : primSem .tuple [.d (.list xs)] = some (if noKey xs then .pt xs else .d (.tuple xs)) := rfl
theorem pr_tupT : primSem .tuple [.d (.tuple xs)] = some (.d (.tuple xs)) := rfl
theorem pr_listL : primSem .list [.d (.list xs)] = some (.lst xs) := rfl
theorem pr_listT : primSem .list [.d (.tuple xs)] = some (.lst xs) := rfl
theorem pr_sortL : primSem .sorted [.d (.list xs)] = if sortable xs then some (.lst (sortD xs)) else none := rfl
theorem pr_sortD : primSem .sorted [.dct t kvs] = if sortable (kvs.map fun p => p.1.dat) then some (.lst (sortD (kvs.map fun p => p.1.dat))) else none := rfl
theorem is_bb : isSem (.d (.bool b)) (.d (.bool c)) = some (b == c) := rfl
theorem cmp_isB : cmpSem .is (.d (.bool b)) (.d (.bool c)) = some (b == c) := rfl
theorem cmp_isnB : cmpSem .isnot (.d (.bool b)) (.d (.bool c)) = some (!(b == c)) := rfl
theorem tru_i : truSem (.d (.int i)) = some (i != 0) := rfl
theorem add_L (ys : List PyData) : binSem .add (.d (.list xs)) (.d (.list ys)) = if xs.length + ys.length ≤ sizeLine then some (.lst (xs ++ ys)) else none := rfl
theorem add_T (ys : List PyData) : binSem .add (.d (.tuple xs)) (.d (.tuple ys)) = if xs.length + ys.length ≤ sizeLine then some (.d (.tuple (xs ++ ys))) else none := rfl
theorem slc_L (lo hi : Option Int) : slcSem (.d (.list xs)) lo hi = some (.lst (cutD xs lo hi)) := rfl
theorem slc_T (lo hi : Option Int) : slcSem (.d (.tuple xs)) lo hi = some (.d (.tuple (cutD xs lo hi))) := rfl
theorem rev_L : revSem (.d (.list xs)) = some (.lst xs.reverse) := rfl
theorem rev_T : revSem (.d (.tuple xs)) = some (.d (.tuple xs.reverse)) := rfl
theorem seqP_pt (st : St) : seqP st (.pt xs) = some xs := rfl
theorem seqP_lst (st : St) : seqP st (.lst xs) = some xs := rfl
theorem seqP_dl (st : St) : seqP st (.d (.list xs)) = some xs := rfl
end
theorem ne_same {s : Str} (h : PyData.strOk s = true) : cmpSem .ne (.d (.str s)) (.d (.str s)) = some false := by
  show (eqD (.str s) (.str s)).map (!·) = _
  rw [eqD_str s s h h]
  show some (!(s == s)) = _
  rw [beq_self_eq_true]
  rfl
theorem if_pt {c : Bool} {xs : List PyData} : (if c then O.pt xs else O.d (.tuple xs)).dat = some (.tuple xs) := by cases c <;> rfl
/-- a tuple, whichever way it is held -/
def tupO (xs : List PyData) : O := if noKey xs then .pt xs else .d (.tuple xs)
theorem tupO_dat (xs : List PyData) : (tupO xs).dat = some (.tuple xs) := by unfold tupO; split <;> rfl
theorem tupO_frz (xs : List PyData) : (tupO xs).frz = some (tupO xs) := by unfold tupO; split <;> rfl
theorem tupO_slot (xs : List PyData) : (tupO xs).slot = true := by unfold tupO; split <;> rfl
theorem tupO_free (xs : List PyData) : (tupO xs).free = true := by unfold tupO; split <;> rfl
theorem tupO_vw (st : St) (xs : List PyData) : vw st (tupO xs) = some (.d (.tuple xs)) := by unfold tupO; split <;> rfl
theorem pr_tupL' (xs : List PyData) : primSem .tuple [.d (.list xs)] = some (tupO xs) := rfl
theorem tupO_or (xs : List PyData) : tupO xs = .pt xs ∨ tupO xs = .d (.tuple xs) := by unfold tupO; cases noKey xs <;> simp
theorem tupO_rdV {st : St} {i : Nat} {xs : List PyData} (h : st.ρ[i]? = some (some (tupO xs))) : rdVar st i = some (tupO xs, st.set i (some (tupO xs))) := by
  unfold rdVar; rw [h]; rcases tupO_or xs with e | e <;> rw [e] <;> rfl
theorem tupO_rdB {st : St} {i : Nat} {xs : List PyData} (h : st.ρ[i]? = some (some (tupO xs))) : rdBor st i = some (tupO xs, st) := by
  unfold rdBor; rw [h]; rcases tupO_or xs with e | e <;> rw [e]
theorem tupO_rdM {st : St} {i : Nat} {xs : List PyData} (h : st.ρ[i]? = some (some (tupO xs))) : rdMov st i = some (tupO xs, st.set i none) := by
  unfold rdMov; rw [h]; rcases tupO_or xs with e | e <;> rw [e]
section
variable (xs : List PyData) (x : PyData) (rows : List (List PyData)) (t : Bool) (kvs : KVs)
theorem frz_d : (O.d x).frz = some (.d x) := rfl
theorem frz_pt : (O.pt xs).frz = some (.pt xs) := rfl
theorem frz_lst : (O.lst xs).frz = some (.d (.list xs)) := rfl
theorem frz_mat : (O.mat rows).frz = some (.d (.list (rows.map .list))) := rfl
theorem frz_dct : (O.dct t kvs).frz = some (.fdct t kvs) := rfl
theorem frz_fdct : (O.fdct t kvs).frz = some (.fdct t kvs) := rfl
theorem frz_src : O.src.frz = some .src := rfl
theorem dat_d : (O.d x).dat = some x := rfl
theorem dat_pt : (O.pt xs).dat = some (.tuple xs) := rfl
theorem dat_lst : (O.lst xs).dat = some (.list xs) := rfl
theorem dat_mat : (O.mat rows).dat = some (.list (rows.map .list)) := rfl
theorem dat_dct0 : (O.dct false []).dat = some (.dict []) := rfl
theorem slot_d : (O.d x).slot = true := rfl
theorem slot_pt : (O.pt xs).slot = true := rfl
theorem slot_lst : (O.lst xs).slot = true := rfl
theorem slot_mat : (O.mat rows).slot = true := rfl
theorem slot_dct : (O.dct t kvs).slot = true := rfl
theorem slot_fdct : (O.fdct t kvs).slot = true := rfl
theorem free_d : (O.d x).free = true := rfl
theorem free_pt : (O.pt xs).free = true := rfl
theorem free_lst : (O.lst xs).free = true := rfl
theorem free_dct : (O.dct t kvs).free = true := rfl
theorem free_fdct : (O.fdct t kvs).free = true := rfl
end
theorem at_c0 {α : Type} (x : α) (xs : List α) : atI (x :: xs) 0 = some x := atI_nat (j := 0) rfl
theorem at_c1 {α : Type} (x y : α) (xs : List α) : atI (x :: y :: xs) 1 = some y := atI_nat (j := 1) rfl
theorem for_pre0 {f : PyData → Vm.St → Option Out} {Q : Out → Prop} (J : List PyData → Vm.St → Prop) (xs : List PyData) (s : Vm.St) (h0 : J [] s)
    (hx : ∀ d x r s, xs = d ++ x :: r → J d s → Ex (x := f x s) fun o => match o with
      | .nx s' => J (d ++ [x]) s'
      | .cnt s' => J (d ++ [x]) s'
      | .brk s' => Q (.nx s')
      | .ret o s' => Q (.ret o s')) (hn : ∀ s, J xs s → Q (.nx s)) : Ex (x := forLoop f xs s) Q := by
  have := for_pre (fun x : PyData => x) J xs s h0 hx hn
  rwa [List.map_id'] at this
theorem sl_1 : (1 ≤ sizeLine) = True := eq_true (by rw [sizeLine_eq]; decide)
theorem sl_2 : (2 ≤ sizeLine) = True := eq_true (by rw [sizeLine_eq]; decide)
theorem sl_3 : (3 ≤ sizeLine) = True := eq_true (by rw [sizeLine_eq]; decide)
theorem sl_4 : (4 ≤ sizeLine) = True := eq_true (by rw [sizeLine_eq]; decide)
theorem sl_5 : (5 ≤ sizeLine) = True := eq_true (by rw [sizeLine_eq]; decide)
theorem sl_6 : (6 ≤ sizeLine) = True := eq_true (by rw [sizeLine_eq]; decide)
theorem sl_7 : (7 ≤ sizeLine) = True := eq_true (by rw [sizeLine_eq]; decide)
theorem sl_8 : (8 ≤ sizeLine) = True := eq_true (by rw [sizeLine_eq]; decide)
theorem sl_9 : (9 ≤ sizeLine) = True := eq_true (by rw [sizeLine_eq]; decide)
theorem sl_10 : (10 ≤ sizeLine) = True := eq_true (by rw [sizeLine_eq]; decide)
theorem sl_11 : (11 ≤ sizeLine) = True := eq_true (by rw [sizeLine_eq]; decide)
theorem sl_12 : (12 ≤ sizeLine) = True := eq_true (by rw [sizeLine_eq]; decide)
theorem sl_13 : (13 ≤ sizeLine) = True := eq_true (by rw [sizeLine_eq]; decide)
theorem sl_14 : (14 ≤ sizeLine) = True := eq_true (by rw [sizeLine_eq]; decide)
theorem sl_15 : (15 ≤ sizeLine) = True := eq_true (by rw [sizeLine_eq]; decide)
theorem sl_16 : (16 ≤ sizeLine) = True := eq_true (by rw [sizeLine_eq]; decide)
theorem sl_17 : (17 ≤ sizeLine) = True := eq_true (by rw [sizeLine_eq]; decide)
theorem sl_18 : (18 ≤ sizeLine) = True := eq_true (by rw [sizeLine_eq]; decide)
theorem sl_19 : (19 ≤ sizeLine) = True := eq_true (by rw [sizeLine_eq]; decide)
theorem sl_20 : (20 ≤ sizeLine) = True := eq_true (by rw [sizeLine_eq]; decide)
theorem sl_21 : (21 ≤ sizeLine) = True := eq_true (by rw [sizeLine_eq]; decide)
theorem sl_22 : (22 ≤ sizeLine) = True := eq_true (by rw [sizeLine_eq]; decide)
theorem sl_23 : (23 ≤ sizeLine) = True := eq_true (by rw [sizeLine_eq]; decide)
theorem sl_24 : (24 ≤ sizeLine) = True := eq_true (by rw [sizeLine_eq]; decide)
theorem sl_25 : (25 ≤ sizeLine) = True := eq_true (by rw [sizeLine_eq]; decide)
theorem sl_26 : (26 ≤ sizeLine) = True := eq_true (by rw [sizeLine_eq]; decide)
theorem sl_27 : (27 ≤ sizeLine) = True := eq_true (by rw [sizeLine_eq]; decide)
theorem sl_28 : (28 ≤ sizeLine) = True := eq_true (by rw [sizeLine_eq]; decide)
theorem sl_29 : (29 ≤ sizeLine) = True := eq_true (by rw [sizeLine_eq]; decide)
theorem sl_30 : (30 ≤ sizeLine) = True := eq_true (by rw [sizeLine_eq]; decide)
theorem sl_31 : (31 ≤ sizeLine) = True := eq_true (by rw [sizeLine_eq]; decide)
theorem sl_32 : (32 ≤ sizeLine) = True := eq_true (by rw [sizeLine_eq]; decide)
theorem sl_33 : (33 ≤ sizeLine) = True := eq_true (by rw [sizeLine_eq]; decide)
theorem sl_34 : (34 ≤ sizeLine) = True := eq_true (by rw [sizeLine_eq]; decide)
theorem sl_35 : (35 ≤ sizeLine) = True := eq_true (by rw [sizeLine_eq]; decide)
theorem sl_36 : (36 ≤ sizeLine) = True := eq_true (by rw [sizeLine_eq]; decide)
theorem sl_37 : (37 ≤ sizeLine) = True := eq_true (by rw [sizeLine_eq]; decide)
theorem sl_38 : (38 ≤ sizeLine) = True := eq_true (by rw [sizeLine_eq]; decide)
theorem sl_39 : (39 ≤ sizeLine) = True := eq_true (by rw [sizeLine_eq]; decide)
theorem sl_40 : (40 ≤ sizeLine) = True := eq_true (by rw [sizeLine_eq]; decide)
end Vm


set_option Elab.async false
set_option linter.all false
set_option maxRecDepth 100000
set_option maxHeartbeats 4000000
/-! Vm, part 39: slices. -/
namespace Vm
open PySem PySem.Spec PyProof.Rows L2

theorem cut_to (xs : List PyData) (k : Nat) : cutD xs none (some (k : Int)) = xs.take k := by
  unfold cutD
  rw [HT.sIx_none, HT.sIx_nat, List.drop_zero, Nat.sub_zero]
  by_cases h : k ≤ xs.length
  · rw [Nat.min_eq_left h]
  · rw [Nat.min_eq_right (by omega), List.take_of_length_le (Nat.le_refl _), List.take_of_length_le (by omega)]
theorem cut_from (xs : List PyData) (k : Nat) : cutD xs (some (k : Int)) none = xs.drop k := by
  unfold cutD
  rw [HT.sIx_none, HT.sIx_nat]
  by_cases h : k ≤ xs.length
  · rw [Nat.min_eq_left h]
    exact List.take_of_length_le (by rw [List.length_drop]; exact Nat.le_refl _)
  · rw [Nat.min_eq_right (by omega), List.drop_of_length_le (Nat.le_refl _), List.drop_of_length_le (by omega), List.take_nil]
theorem cut_to1 (xs : List PyData) : cutD xs none (some 1) = xs.take 1 := cut_to xs 1
theorem cut_from1 (xs : List PyData) : cutD xs (some 1) none = xs.drop 1 := cut_from xs 1
theorem shaped_tup {xs : List PyData} (h : (PyData.tuple xs).hasDict = false) {B : Nat} (k : okV B (.tuple xs) = true) (d : (PyData.tuple xs).depth ≤ 64) : SeqAt.shaped (.tuple xs) = true := by
  have go : ∀ n : Nat, ∀ x : PyData, sizeOf x ≤ n → x.hasDict = false → okV B x = true → x.canLay0 = true := by
    intro n
    induction n with
    | zero => intro x hx; cases x <;> simp at hx <;> omega
    | succ n ih =>
      intro x hx h1 h2
      have all : ∀ ys : List PyData, (∀ y ∈ ys, sizeOf y ≤ n) → PyData.hasDictAll ys = false → okVs B ys = true → PyData.canLayAll0 ys = true := by
        intro ys
        induction ys with
        | nil => intro _ _ _; simp [PyData.canLayAll0]
        | cons y ys ih2 =>
          intro g1 g2 g3
          rw [PyData.hasDictAll, Bool.or_eq_false_iff] at g2
          rw [okVs, Bool.and_eq_true] at g3
          rw [PyData.canLayAll0, Bool.and_eq_true]
          exact ⟨ih y (g1 y List.mem_cons_self) g2.1 g3.1, ih2 (fun z hz => g1 z (List.mem_cons_of_mem _ hz)) g2.2 g3.2⟩
      cases x with
      | none => simp [PyData.canLay0]
      | bool b => simp [PyData.canLay0]
      | int i => simp [PyData.canLay0]
      | str s => rw [PyData.canLay0]; rw [okV, Bool.and_eq_true] at h2; exact h2.1
      | list ys =>
        rw [PyData.canLay0]
        refine all ys (fun y hy => ?_) (by rwa [PyData.hasDict] at h1) (by rwa [okV] at h2)
        have := List.sizeOf_lt_of_mem hy
        simp only [PyData.list.sizeOf_spec] at hx
        omega
      | tuple ys =>
        rw [PyData.canLay0]
        refine all ys (fun y hy => ?_) (by rwa [PyData.hasDict] at h1) (by rwa [okV] at h2)
        have := List.sizeOf_lt_of_mem hy
        simp only [PyData.tuple.sizeOf_spec] at hx
        omega
      | dict kvs => simp [PyData.hasDict] at h1
  unfold SeqAt.shaped
  rw [go _ _ (Nat.le_refl _) h k, decide_eq_true d]
  rfl
theorem eqD_nilT {xs : List PyData} (h : SeqAt.shaped (.tuple xs) = true) : eqD (.tuple xs) (.tuple []) = some xs.isEmpty := by
  unfold eqD
  rw [h, show SeqAt.shaped (.tuple []) = true from rfl]
  show some (PyData.eqv (.tuple xs) (.tuple [])) = _
  rw [PyData.eqv]
  cases xs <;> simp [PyData.eqvAll]
theorem cmp_eqNilT {xs : List PyData} (h : SeqAt.shaped (.tuple xs) = true) : cmpSem .eq (.d (.tuple xs)) (.d (.tuple [])) = some xs.isEmpty := eqD_nilT h
theorem cmp_neNilT {xs : List PyData} (h : SeqAt.shaped (.tuple xs) = true) : cmpSem .ne (.d (.tuple xs)) (.d (.tuple [])) = some (!xs.isEmpty) := by
  show (eqD (.tuple xs) (.tuple [])).map (!·) = _
  rw [eqD_nilT h]; rfl
theorem app_l {st : Vm.St} {i : Nat} {v : O} {xs : List PyData} {y : PyData} (h : st.ρ[i]? = some (some (.lst xs))) (hv : v.dat = some y) (hl : xs.length < sizeLine) : appAt st i v = some (st.set i (some (.lst (xs ++ [y])))) := by
  unfold appAt
  rw [h, hv]
  exact if_pos hl
theorem stAt_l {st : Vm.St} {i j : Nat} {v : O} {xs : List PyData} {y : PyData} (h : st.ρ[i]? = some (some (.lst xs))) (hv : v.dat = some y) (hl : j < xs.length) : stAt st i (.d (.int (j : Int))) v = some (st.set i (some (.lst (xs.set j y)))) := by
  unfold stAt
  rw [h, hv]
  show (ixN xs.length (j : Int)).map _ = _
  rw [ixN_lt hl]
  rfl
end Vm


set_option Elab.async false
set_option linter.all false
set_option maxRecDepth 100000
set_option maxHeartbeats 4000000
/-! Vm, part 40: texts shown are right texts. -/
namespace Vm
open PySem PySem.Spec PyProof.Rows L2

theorem strOk_iff (s : Str) : PyData.strOk s = true ↔ ∀ c ∈ s.cps.toList, c < 0x110000 := by
  unfold PyData.strOk
  rw [Array.all_eq_true_iff_forall_mem]
  constructor
  · intro h c hc
    have := h c (Array.mem_toList_iff.1 hc)
    simpa using this
  · intro h c hc
    have := h c (Array.mem_toList_iff.2 hc)
    simpa using this
theorem strOk_app {a b : Str} (ha : PyData.strOk a = true) (hb : PyData.strOk b = true) : PyData.strOk (a ++ b) = true := by
  rw [strOk_iff] at *
  intro c hc
  have e : (a ++ b).cps.toList = a.cps.toList ++ b.cps.toList := by
    show (a.cps ++ b.cps).toList = _
    rw [Array.toList_append]
  rw [e] at hc
  rcases List.mem_append.1 hc with q | q
  · exact ha c q
  · exact hb c q
theorem strOk_of (s : String) : PyData.strOk (Str.ofString s) = true := by
  rw [strOk_iff, Str.ofString_eq_toList]
  intro c hc
  rw [List.toList_toArray] at hc
  obtain ⟨x, _, rfl⟩ := List.mem_map.1 hc
  have := x.valid
  have h : x.toNat.isValidChar := x.valid
  unfold Nat.isValidChar at h
  omega
theorem strOk_join {s : Str} (hs : PyData.strOk s = true) : ∀ {ts : List Str}, (∀ t ∈ ts, PyData.strOk t = true) → PyData.strOk (Str.join s ts) = true
  | [], _ => strOk_of ""
  | [x], h => h x List.mem_cons_self
  | x :: y :: r, h => strOk_app (strOk_app (h x List.mem_cons_self) hs) (strOk_join hs fun t ht => h t (List.mem_cons_of_mem _ ht))
theorem strOk_from : ∀ (ts : List Str) (k : Nat) (acc : Str), PyData.strOk acc = true → (∀ t ∈ ts, PyData.strOk t = true) → PyData.strOk (textFrom k acc ts) = true
  | [], _, _, h, _ => h
  | t :: r, k, acc, h, g => by
    show PyData.strOk (textFrom (k + 1) _ r) = true
    exact strOk_from r (k + 1) _ (strOk_app (strOk_app h (strOk_of _)) (g t List.mem_cons_self)) fun t ht => g t (List.mem_cons_of_mem _ ht)
mutual
theorem okV.shownOk {B : Nat} : ∀ d : PyData, okV B d = true → PyData.strOk d.shown = true
  | .none, _ => strOk_of "None"
  | .bool b, _ => by
    rw [PyData.shown]
    split
    · exact strOk_of _
    · exact strOk_of _
  | .int i, k => by
    rw [PyData.shown]
    exact strOk_of _
  | .str x, k => by
    rw [okV, Bool.and_eq_true] at k
    rw [PyData.shown]
    exact k.2
  | .list xs, k => by
    rw [okV] at k
    rw [PyData.shown]
    exact strOk_app (strOk_from _ _ _ (strOk_of _) (okVs.shownOk xs k)) (strOk_of _)
  | .tuple xs, k => by
    rw [okV] at k
    rw [PyData.shown]
    unfold tupleText
    exact strOk_app (strOk_app (strOk_of _) (strOk_join (strOk_of _) (okVs.shownOk xs k))) (strOk_of _)
  | .dict [], _ => by
    rw [PyData.shown]
    unfold dictText
    exact strOk_app (strOk_app (strOk_of _) (strOk_of "")) (strOk_of _)
  | .dict (_ :: _), k => by simp [okV] at k
theorem okVs.shownOk {B : Nat} : ∀ xs : List PyData, okVs B xs = true → ∀ t ∈ PyData.shownAll xs, PyData.strOk t = true
  | [], _, t, ht => by simp [PyData.shownAll] at ht
  | x :: xs, k, t, ht => by
    rw [okVs, Bool.and_eq_true] at k
    rw [PyData.shownAll] at ht
    rcases List.mem_cons.1 ht with rfl | ht
    · exact okV.shownOk x k.1
    · exact okVs.shownOk xs k.2 t ht
end
theorem Fine.ne {x : PyData} {d b : Nat} (h : Fine x d b) : cmpSem .ne (.d (.str x.shown)) (.d (.str x.shown)) = some false := ne_same (okV.shownOk x h.ok)
end Vm


set_option Elab.async false
set_option linter.all false
set_option maxRecDepth 100000
set_option maxHeartbeats 0
namespace K85
open PySem PySem.Spec PyProof.Rows L2 Vm
def top (i : Nat) : Stmt := PySem.Challenge.pw_topplingsteps_k85_whole_terms_of_one_to.main.body.getD i (.Pass ⟨0, 0, 0, 0⟩)
/-- is_term: n value one -/
def a_is_term : Ss := (.cons (.ifs (.or (.not (.v (.fn (.isi "tuple") (.cons (.bor 1) .nil)))) (.v (.cmp .ne (.fn .len (.cons (.bor 1) .nil)) (.bor 0)))) (.cons (.ret (.bl false)) .nil) .nil) (.cons (.ret (.fn .all (.cons (.lc false (.and (.fn (.isi "int") (.cons (.bor 2) .nil)) (.and (.not (.v (.fn (.isi "bool") (.cons (.bor 2) .nil)))) (.cmp .ge (.bor 2) (.int 0)))) (.nm 2) (.seq (.var 1)) .no [2]) .nil))) .nil))
def n_is_term : List Str := ["n", "value", "one"]
def p_is_term : List Str := ["n", "value"]
theorem s_is_term_ok : C8.scC n_is_term p_is_term (C8.fnScope (top 1)) = true := by decide +kernel
theorem c_is_term_ok : chkSs ⟨n_is_term, C8.fnScope (top 1), fun _ => true, false⟩ a_is_term (C8.fnBody (top 1)) = true := by decide +kernel
/-- multiplied_terms: one other a b -/
def a_multiplied_terms : Ss := (.cons (.ret (.fn .tuple (.cons (.lc false (.bin .add (.bor 2) (.bor 3)) (.tp (.cons (.nm 2) (.cons (.nm 3) .nil))) (.zips (.var 0) (.var 1)) .no [2, 3]) .nil))) .nil)
def n_multiplied_terms : List Str := ["one", "other", "a", "b"]
def p_multiplied_terms : List Str := ["one", "other"]
theorem s_multiplied_terms_ok : C8.scC n_multiplied_terms p_multiplied_terms (C8.fnScope (top 2)) = true := by decide +kernel
theorem c_multiplied_terms_ok : chkSs ⟨n_multiplied_terms, C8.fnScope (top 2), fun _ => true, false⟩ a_multiplied_terms (C8.fnBody (top 2)) = true := by decide +kernel
/-- divides_term: one other a b -/
def a_divides_term : Ss := (.cons (.ret (.cmp .eq (.lc false (.int 1) (.tp (.cons (.nm 2) (.cons (.nm 3) .nil))) (.zips (.var 0) (.var 1)) (.yes (.v (.cmp .gt (.bor 2) (.bor 3)))) [2, 3]) (.lst .nil))) .nil)
def n_divides_term : List Str := ["one", "other", "a", "b"]
def p_divides_term : List Str := ["one", "other"]
theorem s_divides_term_ok : C8.scC n_divides_term p_divides_term (C8.fnScope (top 3)) = true := by decide +kernel
theorem c_divides_term_ok : chkSs ⟨n_divides_term, C8.fnScope (top 3), fun _ => true, false⟩ a_divides_term (C8.fnBody (top 3)) = true := by decide +kernel
/-- term_quotient: term by a b -/
def a_term_quotient : Ss := (.cons (.ret (.fn .tuple (.cons (.lc false (.bin .sub (.bor 2) (.bor 3)) (.tp (.cons (.nm 2) (.cons (.nm 3) .nil))) (.zips (.var 0) (.var 1)) .no [2, 3]) .nil))) .nil)
def n_term_quotient : List Str := ["term", "by", "a", "b"]
def p_term_quotient : List Str := ["term", "by"]
theorem s_term_quotient_ok : C8.scC n_term_quotient p_term_quotient (C8.fnScope (top 4)) = true := by decide +kernel
theorem c_term_quotient_ok : chkSs ⟨n_term_quotient, C8.fnScope (top 4), fun _ => true, false⟩ a_term_quotient (C8.fnBody (top 4)) = true := by decide +kernel
/-- is_term_sum: n value pair k -/
def a_is_term_sum : Ss := (.cons (.ifs (.not (.v (.fn (.isi "tuple") (.cons (.bor 1) .nil)))) (.cons (.ret (.bl false)) .nil) .nil) (.cons (.forr (.nm 2) (.seq (.var 1)) (.cons (.ifs (.or (.not (.v (.fn (.isi "tuple") (.cons (.bor 2) .nil)))) (.or (.v (.cmp .ne (.fn .len (.cons (.bor 2) .nil)) (.int 2))) (.not (.v (.call "is_term" (.cons (.var 0) (.cons (.idx (.bor 2) (.int 0)) .nil))))))) (.cons (.ret (.bl false)) .nil) .nil) (.cons (.ifs (.or (.not (.v (.fn (.isi "int") (.cons (.idx (.bor 2) (.int 1)) .nil)))) (.or (.v (.fn (.isi "bool") (.cons (.idx (.bor 2) (.int 1)) .nil))) (.v (.cmp .eq (.idx (.bor 2) (.int 1)) (.int 0))))) (.cons (.ret (.bl false)) .nil) .nil) .nil))) (.cons (.ret (.cmp .eq (.lc false (.var 3) (.nm 3) (.rng2 (.int 1) (.fn .len (.cons (.bor 1) .nil))) (.yes (.v (.cmp .le (.idx (.idx (.bor 1) (.bor 3)) (.int 0)) (.idx (.idx (.bor 1) (.bin .sub (.bor 3) (.int 1))) (.int 0))))) [3]) (.lst .nil))) .nil)))
def n_is_term_sum : List Str := ["n", "value", "pair", "k"]
def p_is_term_sum : List Str := ["n", "value"]
theorem s_is_term_sum_ok : C8.scC n_is_term_sum p_is_term_sum (C8.fnScope (top 5)) = true := by decide +kernel
theorem c_is_term_sum_ok : chkSs ⟨n_is_term_sum, C8.fnScope (top 5), fun _ => true, false⟩ a_is_term_sum (C8.fnBody (top 5)) = true := by decide +kernel
/-- told_term_sum: numbers term -/
def a_told_term_sum : Ss := (.cons (.ret (.fn .tuple (.cons (.lc false (.tup (.cons (.var 1) (.cons (.idx (.bor 0) (.bor 1)) .nil))) (.nm 1) (.seq (.fn .sorted (.cons (.bor 0) .nil))) (.yes (.v (.cmp .ne (.idx (.bor 0) (.bor 1)) (.int 0)))) [1]) .nil))) .nil)
def n_told_term_sum : List Str := ["numbers", "term"]
def p_told_term_sum : List Str := ["numbers"]
theorem s_told_term_sum_ok : C8.scC n_told_term_sum p_told_term_sum (C8.fnScope (top 6)) = true := by decide +kernel
theorem c_told_term_sum_ok : chkSs ⟨n_told_term_sum, C8.fnScope (top 6), fun _ => true, false⟩ a_told_term_sum (C8.fnBody (top 6)) = true := by decide +kernel
/-- added_term_sums: one other times found term number -/
def a_added_term_sums : Ss := (.cons (.set 3 (.dof true (.bor 0))) (.cons (.forr (.tp (.cons (.nm 4) (.cons (.nm 5) .nil))) (.seq (.var 1)) (.cons (.sti 3 (.var 4) (.bin .add (.mt .get2 (.bor 3) (.cons (.var 4) (.cons (.int 0) .nil))) (.bin .mul (.bor 2) (.bor 5)))) .nil)) (.cons (.ret (.call "told_term_sum" (.cons (.var 3) .nil))) .nil)))
def n_added_term_sums : List Str := ["one", "other", "times", "found", "term", "number"]
def p_added_term_sums : List Str := ["one", "other", "times"]
theorem s_added_term_sums_ok : C8.scC n_added_term_sums p_added_term_sums (C8.fnScope (top 7)) = true := by decide +kernel
theorem c_added_term_sums_ok : chkSs ⟨n_added_term_sums, C8.fnScope (top 7), fun _ => true, false⟩ a_added_term_sums (C8.fnBody (top 7)) = true := by decide +kernel
/-- multiplied_term_sums: one other found term number late times both -/
def a_multiplied_term_sums : Ss := (.cons (.set 2 (.dnew true)) (.cons (.forr (.tp (.cons (.nm 3) (.cons (.nm 4) .nil))) (.seq (.var 0)) (.cons (.forr (.tp (.cons (.nm 5) (.cons (.nm 6) .nil))) (.seq (.var 1)) (.cons (.set 7 (.call "multiplied_terms" (.cons (.var 3) (.cons (.var 5) .nil)))) (.cons (.sti 2 (.var 7) (.bin .add (.mt .get2 (.bor 2) (.cons (.var 7) (.cons (.int 0) .nil))) (.bin .mul (.bor 4) (.bor 6)))) .nil))) .nil)) (.cons (.ret (.call "told_term_sum" (.cons (.var 2) .nil))) .nil)))
def n_multiplied_term_sums : List Str := ["one", "other", "found", "term", "number", "late", "times", "both"]
def p_multiplied_term_sums : List Str := ["one", "other"]
theorem s_multiplied_term_sums_ok : C8.scC n_multiplied_term_sums p_multiplied_term_sums (C8.fnScope (top 8)) = true := by decide +kernel
theorem c_multiplied_term_sums_ok : chkSs ⟨n_multiplied_term_sums, C8.fnScope (top 8), fun _ => true, false⟩ a_multiplied_term_sums (C8.fnBody (top 8)) = true := by decide +kernel
/-- _law_pick: source many left mixed -/
def a_law_pick : Ss := (.cons (.ifs (.v (.cmp .lt (.bor 1) (.int 2))) (.cons (.ret (.int 0)) .nil) .nil) (.cons (.whl 100 (.and (.v (.cmp .lt (.sg 0 "left") (.int 2))) (.v (.cmp .gt (.sl 0) (.int 0)))) (.cons (.sw 0 "left" (.sp 0)) .nil)) (.cons (.set 2 (.sg 0 "left")) (.cons (.ifs (.v (.cmp .gt (.bor 2) (.int 1))) (.cons (.sw 0 "left" (.bin .fdiv (.bor 2) (.bor 1))) (.cons (.ret (.bin .fmod (.fn .int (.cons (.bor 2) .nil)) (.bor 1))) .nil)) .nil) (.cons (.sw 0 "turn" (.bin .add (.sg 0 "turn") (.int 1))) (.cons (.set 3 (.bin .fmod (.fn .int (.cons (.bin .add (.sg 0 "mixed") (.bin .mul (.sg 0 "turn") (.int 104729))) .nil)) (.int 998244353))) (.cons (.set 3 (.bin .fmod (.fn .int (.cons (.bin .add (.bin .mul (.bor 3) (.bor 3)) (.bin .mul (.sg 0 "turn") (.int 17))) .nil)) (.int 2147483647))) (.cons (.sw 0 "mixed" (.var 3)) (.cons (.ret (.bin .fmod (.fn .int (.cons (.bin .fdiv (.bor 3) (.int 16)) .nil)) (.bor 1))) .nil)))))))))
def n_law_pick : List Str := ["source", "many", "left", "mixed"]
def p_law_pick : List Str := ["source", "many"]
theorem s_law_pick_ok : C8.scC n_law_pick p_law_pick (C8.fnScope (top 11)) = true := by decide +kernel
theorem c_law_pick_ok : chkSs ⟨n_law_pick, C8.fnScope (top 11), fun _ => true, false⟩ a_law_pick (C8.fnBody (top 11)) = true := by decide +kernel
/-- _law_of: source some -/
def a_law_of : Ss := (.cons (.ret (.idx (.bor 1) (.calls "_law_pick" (.cons (.var 0) (.cons (.fn .len (.cons (.bor 1) .nil)) .nil))))) .nil)
def n_law_of : List Str := ["source", "some"]
def p_law_of : List Str := ["source", "some"]
theorem s_law_of_ok : C8.scC n_law_of p_law_of (C8.fnScope (top 12)) = true := by decide +kernel
theorem c_law_of_ok : chkSs ⟨n_law_of, C8.fnScope (top 12), fun _ => true, false⟩ a_law_of (C8.fnBody (top 12)) = true := by decide +kernel
/-- _law_is_int: value -/
def a_law_is_int : Ss := (.cons (.ret (.and (.fn (.isi "int") (.cons (.bor 0) .nil)) (.not (.v (.fn (.isi "bool") (.cons (.bor 0) .nil)))))) .nil)
def n_law_is_int : List Str := ["value"]
def p_law_is_int : List Str := ["value"]
theorem s_law_is_int_ok : C8.scC n_law_is_int p_law_is_int (C8.fnScope (top 13)) = true := by decide +kernel
theorem c_law_is_int_ok : chkSs ⟨n_law_is_int, C8.fnScope (top 13), fun _ => true, false⟩ a_law_is_int (C8.fnBody (top 13)) = true := by decide +kernel
/-- _law_bent: source value odd k way -/
def a_law_bent : Ss := (.cons (.ifs (.and (.v (.call "_law_is_int" (.cons (.var 1) .nil))) (.v (.cmp .gt (.calls "_law_pick" (.cons (.var 0) (.cons (.int 3) .nil))) (.int 0)))) (.cons (.ret (.bin .add (.bor 1) (.calls "_law_of" (.cons (.var 0) (.cons (.lst (.cons (.int 1) (.cons (.bin .sub (.int 0) (.int 1)) .nil))) .nil))))) .nil) .nil) (.cons (.ifs (.or (.not (.v (.fn (.isi "tuple") (.cons (.bor 1) .nil)))) (.or (.v (.cmp .eq (.bor 1) (.tup .nil))) (.v (.cmp .eq (.calls "_law_pick" (.cons (.var 0) (.cons (.int 9) .nil))) (.int 0))))) (.cons (.ret (.calls "_law_of" (.cons (.var 0) (.cons (.var 2) .nil)))) .nil) .nil) (.cons (.par [3, 4] (.cons (.calls "_law_pick" (.cons (.var 0) (.cons (.fn .len (.cons (.bor 1) .nil)) .nil))) (.cons (.calls "_law_pick" (.cons (.var 0) (.cons (.int 12) .nil))) .nil))) (.cons (.ifs (.v (.cmp .lt (.bor 4) (.int 9))) (.cons (.ret (.bin .add (.bin .add (.slc (.bor 1) .no (.yes (.var 3))) (.tup (.cons (.calls "_law_bent" (.cons (.var 0) (.cons (.idx (.bor 1) (.bor 3)) (.cons (.var 2) .nil)))) .nil))) (.slc (.bor 1) (.yes (.bin .add (.bor 3) (.int 1))) .no))) .nil) .nil) (.cons (.ret (.calls "_law_of" (.cons (.var 0) (.cons (.lst (.cons (.bin .add (.slc (.bor 1) .no (.yes (.var 3))) (.slc (.bor 1) (.yes (.bin .add (.bor 3) (.int 1))) .no)) (.cons (.bin .add (.slc (.bor 1) .no (.yes (.bin .add (.bor 3) (.int 1)))) (.slc (.bor 1) (.yes (.var 3)) .no)) (.cons (.fn .list (.cons (.bor 1) .nil)) .nil)))) .nil)))) .nil)))))
def n_law_bent : List Str := ["source", "value", "odd", "k", "way"]
def p_law_bent : List Str := ["source", "value", "odd"]
theorem s_law_bent_ok : C8.scC n_law_bent p_law_bent (C8.fnScope (top 14)) = true := by decide +kernel
theorem c_law_bent_ok : chkSs ⟨n_law_bent, C8.fnScope (top 14), fun _ => true, false⟩ a_law_bent (C8.fnBody (top 14)) = true := by decide +kernel
/-- _law_term: source n degree found turn c -/
def a_law_term : Ss := (.cons (.set 3 (.bin .mul (.lst (.cons (.int 0) .nil)) (.bor 1))) (.cons (.forr (.nm 4) (.rng1 (.var 2)) (.cons (.set 5 (.calls "_law_pick" (.cons (.var 0) (.cons (.var 1) .nil)))) (.cons (.sti 3 (.var 5) (.bin .add (.idx (.bor 3) (.bor 5)) (.int 1))) .nil))) (.cons (.ret (.fn .tuple (.cons (.bor 3) .nil))) .nil)))
def n_law_term : List Str := ["source", "n", "degree", "found", "turn", "c"]
def p_law_term : List Str := ["source", "n", "degree"]
theorem s_law_term_ok : C8.scC n_law_term p_law_term (C8.fnScope (top 15)) = true := by decide +kernel
theorem c_law_term_ok : chkSs ⟨n_law_term, C8.fnScope (top 15), fun _ => true, false⟩ a_law_term (C8.fnBody (top 15)) = true := by decide +kernel
/-- _law_is_term: n value x -/
def a_law_is_term : Ss := (.cons (.ret (.and (.fn (.isi "tuple") (.cons (.bor 1) .nil)) (.and (.cmp .eq (.fn .len (.cons (.bor 1) .nil)) (.bor 0)) (.cmp .eq (.lc false (.var 2) (.nm 2) (.seq (.var 1)) (.yes (.or (.not (.v (.call "_law_is_int" (.cons (.var 2) .nil)))) (.v (.cmp .lt (.bor 2) (.int 0))))) [2]) (.lst .nil))))) .nil)
def n_law_is_term : List Str := ["n", "value", "x"]
def p_law_is_term : List Str := ["n", "value"]
theorem s_law_is_term_ok : C8.scC n_law_is_term p_law_is_term (C8.fnScope (top 16)) = true := by decide +kernel
theorem c_law_is_term_ok : chkSs ⟨n_law_is_term, C8.fnScope (top 16), fun _ => true, false⟩ a_law_is_term (C8.fnBody (top 16)) = true := by decide +kernel
/-- _law_is_sum: n value one term c i -/
def a_law_is_sum : Ss := (.cons (.ifs (.or (.not (.v (.fn (.isi "tuple") (.cons (.bor 1) .nil)))) (.v (.cmp .ne (.lc false (.var 2) (.nm 2) (.seq (.var 1)) (.yes (.or (.not (.v (.fn (.isi "tuple") (.cons (.bor 2) .nil)))) (.v (.cmp .ne (.fn .len (.cons (.bor 2) .nil)) (.int 2))))) [2]) (.lst .nil)))) (.cons (.ret (.bl false)) .nil) .nil) (.cons (.forr (.tp (.cons (.nm 3) (.cons (.nm 4) .nil))) (.seq (.var 1)) (.cons (.ifs (.or (.not (.v (.call "_law_is_term" (.cons (.var 0) (.cons (.var 3) .nil))))) (.or (.not (.v (.call "_law_is_int" (.cons (.var 4) .nil)))) (.v (.cmp .eq (.bor 4) (.int 0))))) (.cons (.ret (.bl false)) .nil) .nil) .nil)) (.cons (.ret (.cmp .eq (.lc false (.var 5) (.nm 5) (.rng2 (.int 1) (.fn .len (.cons (.bor 1) .nil))) (.yes (.not (.v (.cmp .lt (.idx (.idx (.bor 1) (.bin .sub (.bor 5) (.int 1))) (.int 0)) (.idx (.idx (.bor 1) (.bor 5)) (.int 0)))))) [5]) (.lst .nil))) .nil)))
def n_law_is_sum : List Str := ["n", "value", "one", "term", "c", "i"]
def p_law_is_sum : List Str := ["n", "value"]
theorem s_law_is_sum_ok : C8.scC n_law_is_sum p_law_is_sum (C8.fnScope (top 17)) = true := by decide +kernel
theorem c_law_is_sum_ok : chkSs ⟨n_law_is_sum, C8.fnScope (top 17), fun _ => true, false⟩ a_law_is_sum (C8.fnBody (top 17)) = true := by decide +kernel
/-- _law_told: found term -/
def a_law_told : Ss := (.cons (.ret (.fn .tuple (.cons (.lc false (.tup (.cons (.var 1) (.cons (.idx (.bor 0) (.bor 1)) .nil))) (.nm 1) (.seq (.fn .sorted (.cons (.bor 0) .nil))) (.yes (.v (.cmp .ne (.idx (.bor 0) (.bor 1)) (.int 0)))) [1]) .nil))) .nil)
def n_law_told : List Str := ["found", "term"]
def p_law_told : List Str := ["found"]
theorem s_law_told_ok : C8.scC n_law_told p_law_told (C8.fnScope (top 18)) = true := by decide +kernel
theorem c_law_told_ok : chkSs ⟨n_law_told, C8.fnScope (top 18), fun _ => true, false⟩ a_law_told (C8.fnBody (top 18)) = true := by decide +kernel
/-- _law_sum: source n most found turn -/
def a_law_sum : Ss := (.cons (.set 3 (.dnew true)) (.cons (.forr (.nm 4) (.rng1 (.calls "_law_pick" (.cons (.var 0) (.cons (.bin .add (.bor 2) (.int 1)) .nil)))) (.cons (.sti 3 (.calls "_law_term" (.cons (.var 0) (.cons (.var 1) (.cons (.calls "_law_pick" (.cons (.var 0) (.cons (.int 9) .nil))) .nil)))) (.calls "_law_of" (.cons (.var 0) (.cons (.lst (.cons (.int 1) (.cons (.bin .sub (.int 0) (.int 1)) (.cons (.int 2) (.cons (.bin .sub (.int 0) (.int 7)) (.cons (.bin .pow (.int 10) (.int 6)) (.cons (.bin .sub (.int 0) (.int 999)) .nil))))))) .nil)))) .nil)) (.cons (.ret (.call "_law_told" (.cons (.var 3) .nil))) .nil)))
def n_law_sum : List Str := ["source", "n", "most", "found", "turn"]
def p_law_sum : List Str := ["source", "n", "most"]
theorem s_law_sum_ok : C8.scC n_law_sum p_law_sum (C8.fnScope (top 19)) = true := by decide +kernel
theorem c_law_sum_ok : chkSs ⟨n_law_sum, C8.fnScope (top 19), fun _ => true, false⟩ a_law_sum (C8.fnBody (top 19)) = true := by decide +kernel
/-- law: script source odd n one other both x y divides a b times held added product term c late d key values turn value shown told -/
def a_law : Ss := (.cons (.set 2 (.lst (.cons .non (.cons (.bl true) (.cons (.bl false) (.cons (.str "x") (.cons (.tup .nil) (.cons (.tup (.cons (.int 0) .nil)) (.cons (.lst (.cons (.int 0) .nil)) (.cons (.dnew false) (.cons (.int 0) (.cons (.int 1) (.cons (.bin .sub (.int 0) (.int 1)) (.cons (.tup (.cons (.tup (.cons (.int 0) .nil)) (.cons (.int 1) .nil))) (.cons (.tup (.cons (.tup (.cons (.tup (.cons (.int 0) .nil)) (.cons (.int 1) .nil))) .nil)) (.cons (.tup (.cons (.tup (.cons (.tup (.cons (.int 0) (.cons (.int 0) .nil))) (.cons (.int 0) .nil))) .nil)) (.cons (.bin .pow (.int 10) (.int 30)) .nil))))))))))))))))) (.cons (.forr (.nm 3) (.seq (.tup (.cons (.int 4) (.cons (.int 6) (.cons (.bin .add (.int 1) (.calls "_law_pick" (.cons (.var 1) (.cons (.int 6) .nil)))) .nil))))) (.cons (.par [4, 5] (.cons (.calls "_law_term" (.cons (.var 1) (.cons (.var 3) (.cons (.calls "_law_pick" (.cons (.var 1) (.cons (.int 25) .nil))) .nil)))) (.cons (.calls "_law_term" (.cons (.var 1) (.cons (.var 3) (.cons (.calls "_law_pick" (.cons (.var 1) (.cons (.int 13) .nil))) .nil)))) .nil))) (.cons (.set 6 (.fn .tuple (.cons (.lc false (.bin .add (.bor 7) (.bor 8)) (.tp (.cons (.nm 7) (.cons (.nm 8) .nil))) (.zip (.var 4) (.var 5)) .no [7, 8]) .nil))) (.cons (.set 9 (.cmp .eq (.lc false (.var 7) (.tp (.cons (.nm 7) (.cons (.nm 8) .nil))) (.zip (.var 4) (.var 5)) (.yes (.v (.cmp .gt (.bor 8) (.bor 7)))) [7, 8]) (.lst .nil))) (.cons (.ifs (.v (.cmp .ne (.fn .repr (.cons (.lst (.cons (.call "multiplied_terms" (.cons (.var 4) (.cons (.var 5) .nil))) (.cons (.call "divides_term" (.cons (.var 5) (.cons (.var 4) .nil))) .nil))) .nil)) (.fn .repr (.cons (.lst (.cons (.var 6) (.cons (.var 9) .nil))) .nil)))) (.cons (.ret (.bl false)) .nil) .nil) (.cons (.ifs (.or (.v (.cmp .isnot (.call "divides_term" (.cons (.var 5) (.cons (.var 6) .nil))) (.bl true))) (.v (.cmp .ne (.fn .repr (.cons (.call "term_quotient" (.cons (.var 6) (.cons (.var 5) .nil))) .nil)) (.fn .repr (.cons (.bor 4) .nil))))) (.cons (.ret (.bl false)) .nil) .nil) (.cons (.par [10, 11, 12] (.cons (.calls "_law_sum" (.cons (.var 1) (.cons (.var 3) (.cons (.int 8) .nil)))) (.cons (.calls "_law_sum" (.cons (.var 1) (.cons (.var 3) (.cons (.int 6) .nil)))) (.cons (.calls "_law_of" (.cons (.var 1) (.cons (.lst (.cons (.int 0) (.cons (.int 1) (.cons (.bin .sub (.int 0) (.int 1)) (.cons (.int 5) (.cons (.int 1000) (.cons (.bin .sub (.int 0) (.int 1000)) .nil))))))) .nil))) .nil)))) (.cons (.par [13, 14, 15] (.cons (.fn .repr (.cons (.lst (.cons (.var 10) (.cons (.var 11) .nil))) .nil)) (.cons (.dof true (.fn .list (.cons (.bor 10) .nil))) (.cons (.dnew true) .nil)))) (.cons (.forr (.tp (.cons (.nm 16) (.cons (.nm 17) .nil))) (.seq (.var 11)) (.cons (.sti 14 (.var 16) (.bin .add (.mt .get2 (.bor 14) (.cons (.var 16) (.cons (.int 0) .nil))) (.bin .mul (.bor 12) (.bor 17)))) .nil)) (.cons (.forr (.tp (.cons (.nm 16) (.cons (.nm 17) .nil))) (.seq (.var 10)) (.cons (.forr (.tp (.cons (.nm 18) (.cons (.nm 19) .nil))) (.seq (.var 11)) (.cons (.set 20 (.fn .tuple (.cons (.lc false (.bin .add (.bor 7) (.bor 8)) (.tp (.cons (.nm 7) (.cons (.nm 8) .nil))) (.zip (.var 16) (.var 18)) .no [7, 8]) .nil))) (.cons (.sti 15 (.var 20) (.bin .add (.mt .get2 (.bor 15) (.cons (.var 20) (.cons (.int 0) .nil))) (.bin .mul (.bor 17) (.bor 19)))) .nil))) .nil)) (.cons (.ifs (.v (.cmp .ne (.fn .repr (.cons (.call "added_term_sums" (.cons (.var 10) (.cons (.var 11) (.cons (.var 12) .nil)))) .nil)) (.fn .repr (.cons (.call "_law_told" (.cons (.var 14) .nil)) .nil)))) (.cons (.ret (.bl false)) .nil) .nil) (.cons (.ifs (.v (.cmp .ne (.fn .repr (.cons (.lst (.cons (.call "multiplied_term_sums" (.cons (.var 10) (.cons (.var 11) .nil))) (.cons (.call "multiplied_term_sums" (.cons (.var 11) (.cons (.var 10) .nil))) .nil))) .nil)) (.fn .repr (.cons (.bin .mul (.lst (.cons (.call "_law_told" (.cons (.var 15) .nil)) .nil)) (.int 2)) .nil)))) (.cons (.ret (.bl false)) .nil) .nil) (.cons (.ifs (.or (.v (.cmp .ne (.call "added_term_sums" (.cons (.var 10) (.cons (.var 10) (.cons (.bin .sub (.int 0) (.int 1)) .nil)))) (.tup .nil))) (.or (.v (.cmp .ne (.call "multiplied_term_sums" (.cons (.var 10) (.cons (.tup .nil) .nil))) (.tup .nil))) (.v (.cmp .ne (.fn .repr (.cons (.lst (.cons (.var 10) (.cons (.var 11) .nil))) .nil)) (.bor 13))))) (.cons (.ret (.bl false)) .nil) .nil) (.cons (.set 21 (.lst (.cons (.var 10) (.cons (.fn .list (.cons (.bor 10) .nil)) (.cons (.rev (.bor 10)) (.cons (.bin .add (.bor 10) (.slc (.bor 10) .no (.yes (.int 1)))) (.cons (.bin .add (.bor 10) (.tup (.cons (.tup (.cons (.var 4) (.cons (.int 0) .nil))) .nil))) (.cons (.tup (.cons (.tup (.cons (.var 4) (.cons (.int 1) .nil))) .nil)) (.cons (.tup (.cons (.tup (.cons (.slc (.bor 4) (.yes (.int 1)) .no) (.cons (.int 1) .nil))) .nil)) (.cons (.tup (.cons (.var 4) (.cons (.int 1) .nil))) (.cons (.var 4) .nil))))))))))) (.cons (.app 21 (.fn .list (.cons (.bor 4) .nil))) (.cons (.set 21 (.bin .add (.bor 21) (.lst (.cons (.bin .add (.bor 4) (.tup (.cons (.int 0) .nil))) (.cons (.slc (.bor 4) (.yes (.int 1)) .no) (.cons (.fn .tuple (.cons (.lc false (.ife (.v (.cmp .eq (.bor 7) (.int 1))) (.bl true) (.var 7)) (.nm 7) (.seq (.var 4)) .no [7]) .nil)) .nil)))))) (.cons (.set 21 (.bin .add (.bor 21) (.lc false (.calls "_law_bent" (.cons (.var 1) (.cons (.calls "_law_of" (.cons (.var 1) (.cons (.lst (.cons (.var 10) (.cons (.var 4) .nil))) .nil))) (.cons (.var 2) .nil)))) (.nm 22) (.rng1 (.int 16)) .no [22]))) (.cons (.forr (.nm 23) (.seq (.bin .add (.bor 21) (.bor 2))) (.cons (.set 24 (.fn .repr (.cons (.bor 23) .nil))) (.cons (.set 25 (.lst (.cons (.call "is_term" (.cons (.var 3) (.cons (.var 23) .nil))) (.cons (.call "is_term_sum" (.cons (.var 3) (.cons (.var 23) .nil))) .nil)))) (.cons (.ifs (.or (.v (.cmp .ne (.fn .repr (.cons (.bor 25) .nil)) (.fn .repr (.cons (.lst (.cons (.call "_law_is_term" (.cons (.var 3) (.cons (.var 23) .nil))) (.cons (.call "_law_is_sum" (.cons (.var 3) (.cons (.var 23) .nil))) .nil))) .nil)))) (.v (.cmp .ne (.fn .repr (.cons (.bor 23) .nil)) (.bor 24)))) (.cons (.ret (.bl false)) .nil) .nil) .nil)))) .nil)))))))))))))))))) (.cons (.ret (.and (.cmp .is (.call "is_term" (.cons (.int 1) (.cons (.tup (.cons (.int 0) .nil)) .nil))) (.bl true)) (.cmp .is (.call "is_term_sum" (.cons (.int 3) (.cons (.tup .nil) .nil))) (.bl true)))) .nil)))
def n_law : List Str := ["script", "source", "odd", "n", "one", "other", "both", "x", "y", "divides", "a", "b", "times", "held", "added", "product", "term", "c", "late", "d", "key", "values", "turn", "value", "shown", "told"]
def p_law : List Str := ["script"]
theorem s_law_ok : C8.scC n_law p_law (C8.fnScope (top 20)) = true := by decide +kernel
theorem c_law_ok : lawC ⟨n_law, C8.fnScope (top 20), fun _ => true, true⟩ a_law (C8.fnBody (top 20)) = true := by decide +kernel
def n_src : List Str := ["script", "mixed", "cell"]
theorem s_src_ok : C8.scC n_src ["script"] (C8.fnScope (top 10)) = true := by decide +kernel
theorem c_src_ok : srcC ⟨n_src, C8.fnScope (top 10), fun _ => true, false⟩ (C8.fnBody (top 10)) = true := by decide +kernel
abbrev Ph0 : Fs := Fs.none
abbrev Ph1 : Fs := Ph0.addP "is_term" 2 (runP Ph0 3 a_is_term)
abbrev Ph2 : Fs := Ph1.addP "multiplied_terms" 2 (runP Ph1 4 a_multiplied_terms)
abbrev Ph3 : Fs := Ph2.addP "divides_term" 2 (runP Ph2 4 a_divides_term)
abbrev Ph4 : Fs := Ph3.addP "term_quotient" 2 (runP Ph3 4 a_term_quotient)
abbrev Ph5 : Fs := Ph4.addP "is_term_sum" 2 (runP Ph4 4 a_is_term_sum)
abbrev Ph6 : Fs := Ph5.addP "told_term_sum" 1 (runP Ph5 2 a_told_term_sum)
abbrev Ph7 : Fs := Ph6.addP "added_term_sums" 3 (runP Ph6 6 a_added_term_sums)
abbrev Ph8 : Fs := Ph7.addP "multiplied_term_sums" 2 (runP Ph7 8 a_multiplied_term_sums)
abbrev Ph9 : Fs := Ph8.addS "_law_pick" 2 (runS Ph8 4 a_law_pick)
abbrev Ph10 : Fs := Ph9.addS "_law_of" 2 (runS Ph9 2 a_law_of)
abbrev Ph11 : Fs := Ph10.addP "_law_is_int" 1 (runP Ph10 1 a_law_is_int)
abbrev Ph12 : Fs := Ph11.addS "_law_bent" 3 (recS Ph11 "_law_bent" 3 5 a_law_bent 8)
abbrev Ph13 : Fs := Ph12.addS "_law_term" 3 (runS Ph12 6 a_law_term)
abbrev Ph14 : Fs := Ph13.addP "_law_is_term" 2 (runP Ph13 3 a_law_is_term)
abbrev Ph15 : Fs := Ph14.addP "_law_is_sum" 2 (runP Ph14 6 a_law_is_sum)
abbrev Ph16 : Fs := Ph15.addP "_law_told" 1 (runP Ph15 2 a_law_told)
abbrev Ph17 : Fs := Ph16.addS "_law_sum" 3 (runS Ph16 5 a_law_sum)
abbrev Ph : Fs := Ph17
end K85


set_option Elab.async false
set_option linter.all false
set_option maxRecDepth 100000
set_option maxHeartbeats 4000000
namespace K85
open PySem PySem.Spec PyProof.Rows L2 Vm

local macro_rules | `(tactic| and_intros) => `(tactic| simp -dsimp only [q_int, q_bl, q_non, q_str, q_var, q_bor, q_mov, q_bin, q_neg, q_cmp, q_not, q_and, q_or, q_ife, q_tup, q_lst, q_idx, q_slc, q_rev, q_fn, q_mt, q_lcStep, q_lc, q_dnew, q_dof, q_sg, q_sl, q_sp, q_nil, q_cons, q_oeno, q_oeyes, q_ocno, q_ocyes, q_tv, q_tand, q_tor, q_tnot, q_seq, q_rng1, q_rng2, q_zip, q_zips, outK_nx, outK_ret, outK_brk, outK_cnt, q_snil, q_scons, q_set, q_par, q_ifs, q_forStep, q_forr, q_whl, q_ret, q_retn, q_brk, q_cnt, q_pass, q_sw, retP_ret, retS_ret, ex_some, ex_none, ex_iteN, ex_map, ex_bind,
  rdVar, rdBor, rdMov, O.frz, List.getElem?_cons_zero, List.getElem?_cons_succ, St.set, List.set_cons_zero, List.set_cons_succ, Option.map_some, Option.map_none, Option.bind_some, Option.bind_none, isSrc, sget_left, sget_mixed, sget_turn, sput_left, sput_mixed, sput_turn, vw_d, vw_pt, vw_lst, cmp_lt, cmp_gt, cmp_le, cmp_ge, cmp_eqI, cmp_neI, bin_add, bin_sub, tru_b, boolO, intO, put, puts, O.slot, List.length_cons, List.length_nil, Nat.reduceAdd, Nat.reduceLT, Nat.reduceLeDiff, and_true, true_and, and_self, forall_const, true_implies, false_implies, reduceCtorEq, decide_eq_true_eq, decide_eq_false_iff_not, if_true, if_false, Int.reduceNeg, Option.some.injEq, primSem, vwAll, datAll, O.dat, implies_true, frzAll, vw, vw0, seqOf, mtTy, List.all_cons, List.all_nil, O.free, Bool.and_self, Bool.and_true, Bool.true_and, idx_list, idx_tup, clr, asg, asgs, List.length_map, stAt, Bool.not_true, Bool.not_false, Bool.false_eq_true])
theorem pick_at12 : Ph12.s "_law_pick" = some (2, runS Ph8 4 a_pick) := rfl
theorem term_spec (s : Src) (n deg : Nat) (hs : s.cells.length ≤ 63) (hn : 1 ≤ n) (hn6 : n ≤ 6) (hd : deg ≤ 24) :
    Ex (x := runS Ph12 6 a_law_term [.src, .d (.int n), .d (.int deg)] s) fun r => ∃ (ks : List Nat) (s' : Src), r = (.d (tm ks), s') ∧ ks.length = n ∧ (∀ k ∈ ks, k ≤ deg) ∧ s'.cells.length ≤ 63 := by
  unfold a_law_term
  rw [q_runS]
  show Ex (x := evSs Ph12 _ ⟨[some .src, some (.d (.int n)), some (.d (.int deg)), none, none, none], some s⟩) _
  and_intros
  have h1 : binSem .mul (.d (.list [.int 0])) (.d (.int (n : Int))) = some (.lst (nums (List.replicate n 0))) := by
    match n, hn, hn6 with
    | 1, _, _ => rfl
    | 2, _, _ => rfl
    | 3, _, _ => rfl
    | 4, _, _ => rfl
    | 5, _, _ => rfl
    | 6, _, _ => rfl
  rw [h1]
  and_intros
  have h2 : inBnd (deg : Int) = true := by
    simp only [inBnd, Bool.and_eq_true, decide_eq_true_eq]
    omega
  rw [h2]
  and_intros
  refine ⟨by rw [sizeLine_eq]; decide, ?_⟩
  refine forLoop_inv (fun xs st => ∃ (ks : List Nat) (s' : Src) (c4 c5 : Option O), st = ⟨[some .src, some (.d (.int n)), some (.d (.int deg)), some (.lst (nums ks)), c4, c5], some s'⟩ ∧ ks.length = n ∧ (∀ k ∈ ks, k + xs.length ≤ deg) ∧ s'.cells.length ≤ 63) ?_ ?_ _ _ ?_
  · rintro x xs st ⟨ks, s', c4, c5, rfl, e1, e2, e3⟩
    and_intros
    rw [q_calls pick_at12]
    and_intros
    refine (pick_nat s' n e3 (by omega) (by omega)).mono fun r ⟨v, s2, e, h4, h5⟩ => ?_
    subst e
    and_intros
    have hv : v < ks.length := by omega
    rw [q_sti _ _ _ _ ⟨_, rfl⟩]
    and_intros
    rw [atI_nat (nums_get ks v hv)]
    and_intros
    rw [nums_length, ixN_lt hv]
    and_intros
    refine ⟨ks.set v (ks[v] + 1), s2, some (.d x), some (.d (.int (v : Int))), ?_, by rw [List.length_set]; exact e1, ?_, h5⟩
    · rw [← nums_set]
      rfl
    · intro k hk
      rcases List.mem_or_eq_of_mem_set hk with q | q
      · have := e2 k q
        simp only [List.length_cons] at this
        omega
      · have := e2 _ (List.getElem_mem hv)
        simp only [List.length_cons] at this
        omega
  · rintro st ⟨ks, s', c4, c5, rfl, e1, e2, e3⟩
    and_intros
    have hk : ks ≠ [] := by intro z; rw [z] at e1; simp at e1; omega
    rw [if_neg (by rw [noKey_nums hk]; decide)]
    and_intros
    exact ⟨ks, s', rfl, e1, fun k hk => e2 k hk, e3⟩
  · refine ⟨List.replicate n 0, s, none, none, rfl, List.length_replicate, fun k hk => ?_, hs⟩
    rw [List.eq_of_mem_replicate hk]
    show 0 + (List.map _ _).length ≤ deg
    rw [List.length_map, List.length_range]
    omega
end K85


set_option Elab.async false
set_option linter.all false
set_option maxRecDepth 100000
set_option maxHeartbeats 4000000
namespace K85
open PySem PySem.Spec PyProof.Rows L2 Vm

local macro_rules | `(tactic| and_intros) => `(tactic| simp -dsimp only [q_int, q_bl, q_non, q_str, q_var, q_bor, q_mov, q_bin, q_neg, q_cmp, q_not, q_and, q_or, q_ife, q_tup, q_lst, q_idx, q_slc, q_rev, q_fn, q_mt, q_lcStep, q_lc, q_dnew, q_dof, q_sg, q_sl, q_sp, q_nil, q_cons, q_oeno, q_oeyes, q_ocno, q_ocyes, q_tv, q_tand, q_tor, q_tnot, q_seq, q_rng1, q_rng2, q_zip, q_zips, outK_nx, outK_ret, outK_brk, outK_cnt, q_snil, q_scons, q_set, q_par, q_ifs, q_forStep, q_forr, q_whl, q_ret, q_retn, q_brk, q_cnt, q_pass, q_sw, retP_ret, retS_ret, ex_some, ex_none, ex_iteN, ex_map, ex_bind,
  rdVar, rdBor, rdMov, O.frz, List.getElem?_cons_zero, List.getElem?_cons_succ, St.set, List.set_cons_zero, List.set_cons_succ, Option.map_some, Option.map_none, Option.bind_some, Option.bind_none, isSrc, sget_left, sget_mixed, sget_turn, sput_left, sput_mixed, sput_turn, vw_d, vw_pt, vw_lst, cmp_lt, cmp_gt, cmp_le, cmp_ge, cmp_eqI, cmp_neI, bin_add, bin_sub, tru_b, boolO, intO, put, puts, O.slot, List.length_cons, List.length_nil, Nat.reduceAdd, Nat.reduceLT, Nat.reduceLeDiff, and_true, true_and, and_self, forall_const, true_implies, false_implies, reduceCtorEq, decide_eq_true_eq, decide_eq_false_iff_not, if_true, if_false, Int.reduceNeg, Option.some.injEq, primSem, vwAll, datAll, O.dat, implies_true, frzAll, vw, vw0, seqOf, mtTy, List.all_cons, List.all_nil, O.free, Bool.and_self, Bool.and_true, Bool.true_and, idx_list, idx_tup, clr, asg, asgs, List.length_map, stAt, Bool.not_true, Bool.not_false, Bool.false_eq_true])
theorem pick_at16 : Ph16.s "_law_pick" = some (2, runS Ph8 4 a_pick) := rfl
theorem term_at16 : Ph16.s "_law_term" = some (3, runS Ph12 6 a_law_term) := rfl
theorem of_at16 : Ph16.s "_law_of" = some (2, runS Ph9 2 a_of) := rfl
theorem told_at16 : Ph16.p "_law_told" = some (1, runP Ph15 2 a_told) := rfl
theorem pick_at9 : Ph9.s "_law_pick" = some (2, runS Ph8 4 a_pick) := rfl
/-- a sum of terms of n crossings -/
structure SumOk (n : Nat) (P : Poly) : Prop where
  len : ∀ p ∈ P, p.1.length = n
  num : ∀ p ∈ P, ∀ k ∈ p.1, k ≤ 8
  c : ∀ p ∈ P, p.2 ≠ 0 ∧ p.2.natAbs ≤ 1000000
  srt : (keys P).Pairwise fun a b => zs a < zs b
  few : P.length ≤ 8
theorem sum_spec (s : Src) (n most : Nat) (hs : s.cells.length ≤ 63) (hn : 1 ≤ n) (hn6 : n ≤ 6) (hd : most ≤ 8) :
    Ex (x := runS Ph16 5 a_law_sum [.src, .d (.int n), .d (.int most)] s) fun r => ∃ (P : Poly) (s' : Src), r = (.pt (sm P), s') ∧ SumOk n P ∧ s'.cells.length ≤ 63 := by
  unfold a_law_sum
  rw [q_runS]
  show Ex (x := evSs Ph16 _ ⟨[some .src, some (.d (.int n)), some (.d (.int most)), none, none], some s⟩) _
  and_intros
  rw [q_calls pick_at16]
  and_intros
  refine (pick_nat s (most + 1) hs (by omega) (by omega)).mono fun r ⟨v, s', e, h4, h5⟩ => ?_
  subst e
  and_intros
  refine ⟨by simp only [inBnd, Bool.and_eq_true, decide_eq_true_eq]; omega, ?_⟩
  refine forLoop_inv (fun xs st => ∃ (D : Poly) (s' : Src) (c4 : Option O), st = ⟨[some .src, some (.d (.int n)), some (.d (.int most)), some (.dct true (kv D)), c4], some s'⟩ ∧ (keys D).Nodup ∧ D.length + xs.length ≤ 8 ∧ (∀ p ∈ D, p.1.length = n ∧ (∀ k ∈ p.1, k ≤ 8) ∧ p.2 ≠ 0 ∧ p.2.natAbs ≤ 1000000) ∧ s'.cells.length ≤ 63) ?_ ?_ _ _ ?_
  · rintro x xs st ⟨D, s1, c4, rfl, e1, e2, e3, e4⟩
    and_intros
    rw [q_sti _ _ _ _ ⟨_, rfl⟩]
    and_intros
    rw [q_calls of_at16]
    and_intros
    rw [show binSem .pow (.d (.int 10)) (.d (.int 6)) = some (.d (.int 1000000)) from rfl]
    and_intros
    refine ⟨by rw [sizeLine_eq]; decide, ?_⟩
    refine (of_spec pick_at9 s1 _ rfl (List.cons_ne_nil _ _) (by simp) e4).mono fun r ⟨y, hy, s2, e, h6⟩ => ?_
    subst e
    obtain ⟨c, rfl, hc⟩ : ∃ c : Int, y = .int c ∧ c ≠ 0 ∧ c.natAbs ≤ 1000000 := by
      simp only [List.mem_cons, List.not_mem_nil, or_false] at hy
      rcases hy with rfl | rfl | rfl | rfl | rfl | rfl
      all_goals exact ⟨_, rfl, by decide, by decide⟩
    and_intros
    rw [q_calls term_at16]
    and_intros
    rw [q_calls pick_at16]
    and_intros
    refine (pick_nat s2 9 h6 (by omega) (by omega)).mono fun r ⟨v, s3, e, h7, h8⟩ => ?_
    subst e
    and_intros
    refine (term_spec s3 n v h8 hn hn6 (by omega)).mono fun r ⟨ks, s4, e, g1, g2, g3⟩ => ?_
    subst e
    and_intros
    have hk0 : ks ≠ [] := by intro z; rw [z] at g1; simp at g1; omega
    rw [toDK_tm hk0]
    and_intros
    have hlen : (kv D).length < sizeLine := by
      unfold kv
      rw [List.length_map, sizeLine_eq]
      omega
    refine ⟨⟨rfl, hlen⟩, ?_⟩
    simp only [List.length_cons] at e2
    refine ⟨pput D ks c, s4, some (.d x), ?_, pput_nodup e1 _ _, ?_, ?_, g3⟩
    · rw [kvPut_kv]
    · have := pput_length_le D ks c
      omega
    · exact pput_all e3 ⟨g1, fun k hk => by have := g2 k hk; omega, hc⟩
  · rintro st ⟨D, s1, c4, rfl, e1, e2, e3, e4⟩
    and_intros
    rw [q_call told_at16]
    and_intros
    have hD : D.length ≤ sizeLine := by rw [sizeLine_eq]; omega
    rw [ex_eq (told_spec hn (fun p hp => (e3 p hp).1) hD)]
    and_intros
    have key : ∀ p ∈ toldP D, ∃ q ∈ D, q.1 = p.1 ∧ q.2 = p.2 := fun p hp => by
      obtain ⟨h1, h2, h3⟩ := toldP_mem hp
      unfold pget at h2
      cases hf : D.find? fun q => decide (q.1 = p.1) with
      | none => rw [hf] at h2; cases h2
      | some q =>
        rw [hf] at h2
        exact ⟨q, List.mem_of_find?_eq_some hf, by simpa using List.find?_some hf, Option.some.inj h2⟩
    refine ⟨toldP D, s1, rfl, ⟨fun p hp => ?_, fun p hp => ?_, fun p hp => ?_, toldP_sorted e1, ?_⟩, e4⟩
    · obtain ⟨q, h1, h2, h3⟩ := key p hp; rw [← h2]; exact (e3 q h1).1
    · obtain ⟨q, h1, h2, h3⟩ := key p hp; rw [← h2]; exact (e3 q h1).2.1
    · obtain ⟨q, h1, h2, h3⟩ := key p hp; rw [← h3]; exact (e3 q h1).2.2
    · refine Nat.le_trans (List.length_filterMap_le _ _) ?_
      rw [show (srt D).length = (keys D).length from (List.mergeSort_perm _ _).length_eq]
      unfold keys
      rw [List.length_map]
      simp only [List.length_nil] at e2
      omega
  · refine ⟨[], s', none, rfl, List.nodup_nil, ?_, fun p hp => (List.not_mem_nil hp).elim, h5⟩
    show 0 + (List.map _ _).length ≤ 8
    rw [List.length_map, List.length_range]
    omega
end K85


set_option Elab.async false
set_option linter.all false
set_option maxRecDepth 100000
set_option maxHeartbeats 4000000
namespace K85
open PySem PySem.Spec PyProof.Rows L2 Vm

local macro_rules | `(tactic| and_intros) => `(tactic| simp -dsimp only [q_int, q_bl, q_non, q_str, q_var, q_bor, q_mov, q_bin, q_neg, q_cmp, q_not, q_and, q_or, q_ife, q_tup, q_lst, q_idx, q_slc, q_rev, q_fn, q_mt, q_lcStep, q_lc, q_dnew, q_dof, q_sg, q_sl, q_sp, q_nil, q_cons, q_oeno, q_oeyes, q_ocno, q_ocyes, q_tv, q_tand, q_tor, q_tnot, q_seq, q_rng1, q_rng2, q_zip, q_zips, outK_nx, outK_ret, outK_brk, outK_cnt, q_snil, q_scons, q_set, q_par, q_ifs, q_forStep, q_forr, q_whl, q_ret, q_retn, q_brk, q_cnt, q_pass, q_sw, retP_ret, retS_ret, ex_some, ex_none, ex_iteN, ex_map, ex_bind,
  rdVar, rdBor, rdMov, O.frz, List.getElem?_cons_zero, List.getElem?_cons_succ, St.set, List.set_cons_zero, List.set_cons_succ, Option.map_some, Option.map_none, Option.bind_some, Option.bind_none, isSrc, sget_left, sget_mixed, sget_turn, sput_left, sput_mixed, sput_turn, vw_d, vw_pt, vw_lst, cmp_lt, cmp_gt, cmp_le, cmp_ge, cmp_eqI, cmp_neI, bin_add, bin_sub, tru_b, boolO, intO, put, puts, O.slot, List.length_cons, List.length_nil, Nat.reduceAdd, Nat.reduceLT, Nat.reduceLeDiff, and_true, true_and, and_self, forall_const, true_implies, false_implies, reduceCtorEq, decide_eq_true_eq, decide_eq_false_iff_not, if_true, if_false, Int.reduceNeg, Option.some.injEq, primSem, vwAll, datAll, O.dat, implies_true, frzAll, vw, vw0, seqOf, mtTy, List.all_cons, List.all_nil, O.free, Bool.and_self, Bool.and_true, Bool.true_and, idx_list, idx_tup, clr, asg, asgs, List.length_map, stAt, Bool.not_true, Bool.not_false, Bool.false_eq_true])
def addT (a b : List Nat) : List Nat := List.zipWith (· + ·) a b
theorem zipD_nums : ∀ a b : List Nat, zipD (nums a) (nums b) = (a.zip b).map fun p : Nat × Nat => PyData.tuple [.int (p.1 : Int), .int (p.2 : Int)]
  | [], _ => rfl
  | _ :: _, [] => rfl
  | x :: xs, y :: ys => by
    show PyData.tuple [_, _] :: zipD (nums xs) (nums ys) = _
    rw [zipD_nums xs ys]
    rfl
theorem zip_len {a b : List Nat} (h : a.length = b.length) (h6 : a.length ≤ 6) : (a.zip b).length ≤ 6 := by
  rw [List.length_zip]; omega
theorem zipfm : ∀ a b : List Nat, ((a.zip b).filterMap fun p : Nat × Nat => some (O.d (.int ((p.1 + p.2 : Nat) : Int)))) = (List.zipWith (· + ·) a b).map fun k : Nat => O.d (.int (k : Int))
  | [], _ => rfl
  | _ :: _, [] => rfl
  | x :: xs, y :: ys => congrArg (List.cons _) (zipfm xs ys)
theorem mul_spec {Φ : Fs} (a b : List Nat) (h : a.length = b.length) (h1 : a ≠ []) (h6 : a.length ≤ 6) : runP Φ 4 a_multiplied_terms [.d (tm a), .d (tm b)] = some (.d (tm (addT a b))) := by
  apply Ex.get
  unfold a_multiplied_terms
  rw [q_runP]
  show Ex (x := evSs Φ _ ⟨[some (.d (.tuple (nums a))), some (.d (.tuple (nums b))), none, none], none⟩) _
  and_intros
  rw [show zip2t [PyData.tuple (nums a), .tuple (nums b)] = some (nums a, nums b) from rfl]
  and_intros
  refine ⟨by rw [nums_length, nums_length, h], ?_⟩
  rw [zipD_nums]
  refine Ex.of (lc_pureM _ (fun p : Nat × Nat => some (.d (.int ((p.1 + p.2 : Nat) : Int)))) (a.zip b) fun p hp => ?_) ?_
  · and_intros
    rw [Int.natCast_add]
  · have e : ((a.zip b).filterMap fun p : Nat × Nat => some (O.d (.int ((p.1 + p.2 : Nat) : Int)))) = (addT a b).map fun k : Nat => O.d (.int (k : Int)) := by
      exact zipfm a b
    rw [e]
    and_intros
    rw [datAll_d (fun k : Nat => PyData.int (k : Int))]
    and_intros
    have hne : addT a b ≠ [] := by
      intro z
      have := congrArg List.length z
      simp only [addT, List.length_zipWith, List.length_nil] at this
      have : a.length ≠ 0 := fun q => h1 (List.length_eq_zero_iff.1 q)
      omega
    refine ⟨?_, ?_⟩
    · simp only [addT, List.length_zipWith]; rw [sizeLine_eq]; omega
    · rw [if_neg (show ¬ noKey ((addT a b).map fun k : Nat => PyData.int (k : Int)) = true by rw [show noKey ((addT a b).map fun k : Nat => PyData.int (k : Int)) = false from noKey_nums hne]; decide)]
      and_intros
      rfl
end K85


set_option Elab.async false
set_option linter.all false
set_option maxRecDepth 100000
set_option maxHeartbeats 4000000
namespace K85
open PySem PySem.Spec PyProof.Rows L2 Vm

theorem cmp_eqNil (xs : List PyData) : cmpSem .eq (.d (.list xs)) (.d (.list [])) = some xs.isEmpty := eqD_nil xs
local macro_rules | `(tactic| and_intros) => `(tactic| simp -dsimp only [q_int, q_bl, q_non, q_str, q_var, q_bor, q_mov, q_bin, q_neg, q_cmp, q_not, q_and, q_or, q_ife, q_tup, q_lst, q_idx, q_slc, q_rev, q_fn, q_mt, q_lcStep, q_lc, q_dnew, q_dof, q_sg, q_sl, q_sp, q_nil, q_cons, q_oeno, q_oeyes, q_ocno, q_ocyes, q_tv, q_tand, q_tor, q_tnot, q_seq, q_rng1, q_rng2, q_zip, q_zips, outK_nx, outK_ret, outK_brk, outK_cnt, q_snil, q_scons, q_set, q_par, q_ifs, q_forStep, q_forr, q_whl, q_ret, q_retn, q_brk, q_cnt, q_pass, q_sw, retP_ret, retS_ret, ex_some, ex_none, ex_iteN, ex_map, ex_bind,
  rdVar, rdBor, rdMov, O.frz, List.getElem?_cons_zero, List.getElem?_cons_succ, St.set, List.set_cons_zero, List.set_cons_succ, Option.map_some, Option.map_none, Option.bind_some, Option.bind_none, isSrc, sget_left, sget_mixed, sget_turn, sput_left, sput_mixed, sput_turn, vw_d, vw_pt, vw_lst, cmp_lt, cmp_gt, cmp_le, cmp_ge, cmp_eqI, cmp_neI, bin_add, bin_sub, tru_b, boolO, intO, put, puts, O.slot, List.length_cons, List.length_nil, Nat.reduceAdd, Nat.reduceLT, Nat.reduceLeDiff, cmp_eqNil, and_true, true_and, and_self, forall_const, true_implies, false_implies, reduceCtorEq, decide_eq_true_eq, decide_eq_false_iff_not, if_true, if_false, Int.reduceNeg, Option.some.injEq, primSem, vwAll, datAll, O.dat, implies_true, frzAll, vw, vw0, seqOf, mtTy, List.all_cons, List.all_nil, O.free, Bool.and_self, Bool.and_true, Bool.true_and, idx_list, idx_tup, clr, asg, asgs, List.length_map, stAt, Bool.not_true, Bool.not_false, Bool.false_eq_true])
theorem filterMap_if {α β : Type} (p : α → Prop) [DecidablePred p] (f : α → β) : ∀ xs : List α, (xs.filterMap fun x => if p x then some (f x) else none) = (xs.filter fun x => decide (p x)).map f
  | [] => rfl
  | x :: xs => by
    rw [List.filterMap_cons, List.filter_cons]
    by_cases h : p x
    · rw [if_pos h, if_pos (decide_eq_true h), List.map_cons, filterMap_if p f xs]
    · rw [if_neg h, if_neg (by simp [h]), filterMap_if p f xs]
/-- a divides b -/
def divs (a b : List Nat) : Bool := ((a.zip b).filter fun p : Nat × Nat => decide (p.2 < p.1)).isEmpty
theorem div_spec {Φ : Fs} (a b : List Nat) (h : a.length = b.length) (h6 : a.length ≤ 6) : runP Φ 4 a_divides_term [.d (tm a), .d (tm b)] = some (.d (.bool (divs a b))) := by
  apply Ex.get
  unfold a_divides_term
  rw [q_runP]
  show Ex (x := evSs Φ _ ⟨[some (.d (.tuple (nums a))), some (.d (.tuple (nums b))), none, none], none⟩) _
  and_intros
  rw [show zip2t [PyData.tuple (nums a), .tuple (nums b)] = some (nums a, nums b) from rfl]
  and_intros
  refine ⟨by rw [nums_length, nums_length, h], ?_⟩
  rw [zipD_nums]
  refine Ex.of (lc_pureM _ (fun p : Nat × Nat => if p.2 < p.1 then some (.d (.int 1)) else none) (a.zip b) fun p hp => ?_) ?_
  · and_intros
    refine ⟨fun q => by rw [if_pos (Int.ofNat_lt.1 q)], fun q => by rw [if_neg fun z => q (Int.ofNat_lt.2 z)]⟩
  · and_intros
    have e : ((a.zip b).filterMap fun p : Nat × Nat => if p.2 < p.1 then some (O.d (.int 1)) else none) = ((a.zip b).filter fun p : Nat × Nat => decide (p.2 < p.1)).map fun _ => O.d (.int 1) := filterMap_if _ _ _
    rw [e]
    rw [datAll_d (fun _ : Nat × Nat => PyData.int 1)]
    and_intros
    refine ⟨?_, by rw [sizeLine_eq]; decide, ?_⟩
    · refine Nat.le_trans (List.length_filter_le _ _) ?_
      rw [List.length_zip, sizeLine_eq]; omega
    · unfold divs
      cases (a.zip b).filter fun p : Nat × Nat => decide (p.2 < p.1) <;> rfl
end K85


set_option Elab.async false
set_option linter.all false
set_option maxRecDepth 100000
set_option maxHeartbeats 4000000
namespace K85
open PySem PySem.Spec PyProof.Rows L2 Vm

local macro_rules | `(tactic| and_intros) => `(tactic| simp -dsimp only [q_int, q_bl, q_non, q_str, q_var, q_bor, q_mov, q_bin, q_neg, q_cmp, q_not, q_and, q_or, q_ife, q_tup, q_lst, q_idx, q_slc, q_rev, q_fn, q_mt, q_lcStep, q_lc, q_dnew, q_dof, q_sg, q_sl, q_sp, q_nil, q_cons, q_oeno, q_oeyes, q_ocno, q_ocyes, q_tv, q_tand, q_tor, q_tnot, q_seq, q_rng1, q_rng2, q_zip, q_zips, outK_nx, outK_ret, outK_brk, outK_cnt, q_snil, q_scons, q_set, q_par, q_ifs, q_forStep, q_forr, q_whl, q_ret, q_retn, q_brk, q_cnt, q_pass, q_sw, retP_ret, retS_ret, ex_some, ex_none, ex_iteN, ex_map, ex_bind,
  rdVar, rdBor, rdMov, O.frz, List.getElem?_cons_zero, List.getElem?_cons_succ, St.set, List.set_cons_zero, List.set_cons_succ, Option.map_some, Option.map_none, Option.bind_some, Option.bind_none, isSrc, sget_left, sget_mixed, sget_turn, sput_left, sput_mixed, sput_turn, vw_d, vw_pt, vw_lst, cmp_lt, cmp_gt, cmp_le, cmp_ge, cmp_eqI, cmp_neI, bin_add, bin_sub, tru_b, boolO, intO, put, puts, O.slot, List.length_cons, List.length_nil, Nat.reduceAdd, Nat.reduceLT, Nat.reduceLeDiff, cmp_eqNil, and_true, true_and, and_self, forall_const, true_implies, false_implies, reduceCtorEq, decide_eq_true_eq, decide_eq_false_iff_not, if_true, if_false, Int.reduceNeg, Option.some.injEq, primSem, vwAll, datAll, O.dat, implies_true, frzAll, vw, vw0, seqOf, mtTy, List.all_cons, List.all_nil, O.free, Bool.and_self, Bool.and_true, Bool.true_and, idx_list, idx_tup, clr, asg, asgs, List.length_map, stAt, Bool.not_true, Bool.not_false, Bool.false_eq_true])
theorem zipD_add : ∀ a b : List Nat, zipD (nums (addT a b)) (nums b) = (a.zip b).map fun p : Nat × Nat => PyData.tuple [.int ((p.1 + p.2 : Nat) : Int), .int (p.2 : Int)]
  | [], [] => rfl
  | [], _ :: _ => rfl
  | _ :: _, [] => rfl
  | x :: xs, y :: ys => by
    show PyData.tuple [_, _] :: zipD (nums (addT xs ys)) (nums ys) = _
    rw [zipD_add xs ys]
    rfl
theorem zip_fst : ∀ a b : List Nat, a.length = b.length → ((a.zip b).filterMap fun p : Nat × Nat => some (O.d (.int (p.1 : Int)))) = a.map fun k : Nat => O.d (.int (k : Int))
  | [], [], _ => rfl
  | x :: xs, y :: ys, h => congrArg (List.cons _) (zip_fst xs ys (Nat.succ.inj h))
theorem addT_length {a b : List Nat} (h : a.length = b.length) : (addT a b).length = a.length := by
  unfold addT
  rw [List.length_zipWith]; omega
theorem quo_spec {Φ : Fs} (a b : List Nat) (h : a.length = b.length) (h1 : a ≠ []) (h6 : a.length ≤ 6) : runP Φ 4 a_term_quotient [.d (tm (addT a b)), .d (tm b)] = some (.d (tm a)) := by
  apply Ex.get
  unfold a_term_quotient
  rw [q_runP]
  show Ex (x := evSs Φ _ ⟨[some (.d (.tuple (nums (addT a b)))), some (.d (.tuple (nums b))), none, none], none⟩) _
  and_intros
  rw [show zip2t [PyData.tuple (nums (addT a b)), .tuple (nums b)] = some (nums (addT a b), nums b) from rfl]
  and_intros
  refine ⟨by rw [nums_length, nums_length, addT_length h, h], ?_⟩
  rw [zipD_add]
  refine Ex.of (lc_pureM _ (fun p : Nat × Nat => some (.d (.int (p.1 : Int)))) (a.zip b) fun p hp => ?_) ?_
  · and_intros
    rw [show ((p.1 + p.2 : Nat) : Int) - (p.2 : Int) = (p.1 : Int) by omega]
  · rw [zip_fst a b h]
    and_intros
    rw [datAll_d (fun k : Nat => PyData.int (k : Int))]
    and_intros
    refine ⟨by rw [sizeLine_eq]; omega, ?_⟩
    rw [if_neg (show ¬ noKey (a.map fun k : Nat => PyData.int (k : Int)) = true by rw [show noKey (a.map fun k : Nat => PyData.int (k : Int)) = false from noKey_nums h1]; decide)]
    and_intros
    rfl
end K85


set_option Elab.async false
set_option linter.all false
set_option maxRecDepth 100000
set_option maxHeartbeats 4000000
namespace K85
open PySem PySem.Spec PyProof.Rows L2 Vm

local macro_rules | `(tactic| and_intros) => `(tactic| simp -dsimp only [q_int, q_bl, q_non, q_str, q_var, q_bor, q_mov, q_bin, q_neg, q_cmp, q_not, q_and, q_or, q_ife, q_tup, q_lst, q_idx, q_slc, q_rev, q_fn, q_mt, q_lcStep, q_lc, q_dnew, q_dof, q_sg, q_sl, q_sp, q_nil, q_cons, q_oeno, q_oeyes, q_ocno, q_ocyes, q_tv, q_tand, q_tor, q_tnot, q_seq, q_rng1, q_rng2, q_zip, q_zips, outK_nx, outK_ret, outK_brk, outK_cnt, q_snil, q_scons, q_set, q_par, q_ifs, q_forStep, q_forr, q_whl, q_ret, q_retn, q_brk, q_cnt, q_pass, q_sw, retP_ret, retS_ret, ex_some, ex_none, ex_iteN, ex_map, ex_bind,
  rdVar, rdBor, rdMov, frz_d, frz_pt, frz_lst, frz_mat, frz_dct, frz_fdct, frz_src, List.getElem?_cons_zero, List.getElem?_cons_succ, St.set, List.set_cons_zero, List.set_cons_succ, Option.map_some, Option.map_none, Option.bind_some, Option.bind_none, isSrc, sget_left, sget_mixed, sget_turn, sput_left, sput_mixed, sput_turn, vw_d, vw_pt, vw_lst, cmp_lt, cmp_gt, cmp_le, cmp_ge, cmp_eqI, cmp_neI, bin_add, bin_sub, tru_b, boolO, intO, put, puts, slot_d, slot_pt, slot_lst, slot_mat, slot_dct, slot_fdct, List.length_cons, List.length_nil, Nat.reduceAdd, Nat.reduceLT, Nat.reduceLeDiff, cmp_eqNil, and_true, true_and, and_self, forall_const, true_implies, false_implies, reduceCtorEq, decide_eq_true_eq, decide_eq_false_iff_not, if_true, if_false, Int.reduceNeg, Option.some.injEq, pr_lenL, pr_lenH, pr_lenT, pr_lenD, pr_abs, pr_intI, pr_intB, pr_all, pr_any, pr_sum, pr_max, pr_min, pr_max2, pr_min2, pr_tupL', pr_tupT, pr_listL, pr_listT, pr_sortL, pr_sortD, cmp_isB, cmp_isnB, tru_i, cmp_neNil, add_L, add_T, slc_L, slc_T, rev_L, rev_T, seqP_pt, seqP_lst, seqP_dl, tupO_dat, tupO_frz, tupO_slot, tupO_free, tupO_vw, vwAll, datAll, dat_d, dat_pt, dat_lst, dat_mat, dat_dct0, implies_true, frzAll, vw, vw0, seqOf, mtTy, List.all_cons, List.all_nil, free_d, free_pt, free_lst, free_dct, free_fdct, Bool.and_self, Bool.and_true, Bool.true_and, idx_list, idx_tup, clr, asg, asgs, List.length_map, Bool.not_true, Bool.not_false, Bool.false_eq_true])
theorem get2_kv {D : Poly} {k : List Nat} (hk : k ≠ []) (y : Int) : mtSem .get2 [.dct true (kv D), .d (tm k), .d (.int y)] = some (.d (.int ((pget D k).getD y))) := by
  show ((toDK (tm k)).bind fun q => if q.tk = true then some (O.d ((kvGet (kv D) q).getD (.int y))) else none) = _
  rw [toDK_tm hk, Option.bind_some, if_pos (show (dk k).tk = true from rfl), kvGet_kv]
  cases pget D k <;> rfl
theorem stAt_kv {st : Vm.St} {i : Nat} {D : Poly} {k : List Nat} {c : Int} (h : st.ρ[i]? = some (some (O.dct true (kv D)))) (hk : k ≠ []) (hl : D.length < sizeLine) : stAt st i (.d (tm k)) (.d (.int c)) = some (st.set i (some (.dct true (kv (pput D k c))))) := by
  unfold stAt
  rw [h]
  show ((toDK (tm k)).bind fun q => if q.tk = true ∧ (kv D).length < sizeLine then some (st.set i (some (.dct true (kvPut (kv D) q (.int c))))) else none) = _
  rw [toDK_tm hk, Option.bind_some, if_pos ⟨rfl, by unfold kv; rw [List.length_map]; exact hl⟩, kvPut_kv]
theorem acc_append (L M D : Poly) : acc (L ++ M) D = acc M (acc L D) := List.foldl_append
theorem acc_len : ∀ (L D : Poly), (acc L D).length ≤ D.length + L.length
  | [], D => Nat.le_refl _
  | p :: L, D => by
    show (acc L (acc1 D p)).length ≤ _
    refine Nat.le_trans (acc_len L _) ?_
    have := pput_length_le D p.1 (val D p.1 + p.2)
    show (pput D p.1 _).length + _ ≤ _
    rw [List.length_cons]
    omega
theorem acc_all {R : List Nat × Int → Prop} {L D : Poly} (hD : ∀ p ∈ D, R p) (hL : ∀ p ∈ L, ∀ c, R (p.1, c)) : ∀ p ∈ acc L D, R p := by
  induction L generalizing D with
  | nil => exact hD
  | cons q L ih =>
    show ∀ p ∈ acc L (acc1 D q), R p
    exact ih (pput_all hD (hL q List.mem_cons_self _)) fun p hp => hL p (List.mem_cons_of_mem _ hp)
theorem mkD_len : ∀ (L D : Poly), (mkD L D).length ≤ D.length + L.length
  | [], D => Nat.le_refl _
  | p :: L, D => by
    show (mkD L (pput D p.1 p.2)).length ≤ _
    refine Nat.le_trans (mkD_len L _) ?_
    have := pput_length_le D p.1 p.2
    rw [List.length_cons]
    omega
theorem mkD_all {R : List Nat × Int → Prop} {L D : Poly} (hD : ∀ p ∈ D, R p) (hL : ∀ p ∈ L, R p) : ∀ p ∈ mkD L D, R p := by
  induction L generalizing D with
  | nil => exact hD
  | cons q L ih =>
    show ∀ p ∈ mkD L (pput D q.1 q.2), R p
    exact ih (pput_all hD (hL q List.mem_cons_self)) fun p hp => hL p (List.mem_cons_of_mem _ hp)
def tms (t : Int) (b : Poly) : Poly := b.map fun p : List Nat × Int => (p.1, t * p.2)
theorem tms_append (t : Int) (a b : Poly) : tms t (a ++ b) = tms t a ++ tms t b := List.map_append
theorem len_ne {n : Nat} (hn : 1 ≤ n) {k : List Nat} (h : k.length = n) : k ≠ [] := by
  intro z; rw [z] at h; simp at h; omega
theorem add_spec {Φ Φ' : Fs} {n : Nat} (ht : Φ.p "told_term_sum" = some (1, runP Φ' 2 a_told)) (a b : Poly) (t : Int) (hn : 1 ≤ n) (ha : ∀ p ∈ a, p.1.length = n) (hb : ∀ p ∈ b, p.1.length = n) (h2 : t.natAbs < 2 ^ 64) (hl : a.length + b.length ≤ 1000) :
    runP Φ 6 a_added_term_sums [.pt (sm a), .pt (sm b), .d (.int t)] = some (.pt (sm (toldP (acc (tms t b) (mkD a []))))) := by
  apply Ex.get
  unfold a_added_term_sums
  rw [q_runP]
  show Ex (x := evSs Φ _ ⟨[some (.pt (sm a)), some (.pt (sm b)), some (.d (.int t)), none, none, none], none⟩) _
  and_intros
  rw [pairsOf_sm]
  and_intros
  rw [show dictOf true (a.map fun p : List Nat × Int => (tm p.1, PyData.int p.2)) [] = some (kv (mkD a [])) from dictOf_sm a [] fun p hp => len_ne hn (ha p hp)]
  and_intros
  have len1 : ∀ d : Poly, d.length ≤ b.length → (acc (tms t d) (mkD a [])).length < sizeLine := fun d hd => by
    have e1 := acc_len (tms t d) (mkD a [])
    have e2 := mkD_len a []
    have e3 : (tms t d).length = d.length := List.length_map _
    rw [sizeLine_eq]
    simp only [List.length_nil] at e2
    omega
  refine for_pre (fun p : List Nat × Int => PyData.tuple [tm p.1, .int p.2]) (fun d st => ∃ c4 c5 : Option O, st = ⟨[some (.pt (sm a)), some (.pt (sm b)), some (.d (.int t)), some (.dct true (kv (acc (tms t d) (mkD a [])))), c4, c5], none⟩) b _ ⟨_, _, rfl⟩ ?_ ?_
  · rintro d p r st e ⟨c4, c5, rfl⟩
    have hk : p.1 ≠ [] := len_ne hn (hb p (by rw [e]; exact List.mem_append_right _ List.mem_cons_self))
    and_intros
    rw [q_sti _ _ _ _ ⟨_, rfl⟩]
    and_intros
    rw [get2_kv hk]
    and_intros
    rw [bin_mulS (.inl h2)]
    and_intros
    rw [stAt_kv rfl hk (len1 d (by rw [e, List.length_append, List.length_cons]; omega))]
    and_intros
    rw [show acc (tms t (d ++ [p])) (mkD a []) = pput (acc (tms t d) (mkD a [])) p.1 (val (acc (tms t d) (mkD a [])) p.1 + t * p.2) by rw [tms_append, acc_append]; rfl]
    exact ⟨_, _, rfl⟩
  · rintro st ⟨c4, c5, rfl⟩
    and_intros
    rw [q_call ht]
    and_intros
    rw [ex_eq (told_spec hn (D := acc (tms t b) (mkD a [])) (acc_all (mkD_all (fun p hp => (List.not_mem_nil hp).elim) ha) fun p hp c => ?_) (Nat.le_of_lt (len1 b (Nat.le_refl _))))]
    · and_intros
    · obtain ⟨q, hq, e⟩ := List.mem_map.1 hp
      rw [← e]
      exact hb q hq
/-- all products of pairs -/
def prods (a b : Poly) : Poly := a.flatMap fun p => b.map fun q : List Nat × Int => (addT p.1 q.1, p.2 * q.2)
theorem prods_len {a b : Poly} : (prods a b).length = a.length * b.length := by
  unfold prods
  induction a with
  | nil => simp
  | cons p a ih => rw [List.flatMap_cons, List.length_append, ih, List.length_map, List.length_cons, Nat.add_mul]; omega
theorem seq_sm : (x : Poly) → (o : O) → (o = .pt (sm x) ∨ o = .d (.tuple (sm x))) → o.dat = some (.tuple (sm x)) ∧ o.frz = some o
  | x, _, .inl rfl => ⟨rfl, rfl⟩
  | x, _, .inr rfl => ⟨rfl, rfl⟩
theorem addT_len {n : Nat} {a b : List Nat} (h : a.length = n) (k : b.length = n) : (addT a b).length = n := (addT_length (h.trans k.symm)).trans h
theorem mulsum_spec {Φ Φ' Φ'' : Fs} {n : Nat} (ht : Φ.p "told_term_sum" = some (1, runP Φ' 2 a_told)) (hm : Φ.p "multiplied_terms" = some (2, runP Φ'' 4 a_multiplied_terms)) (a b : Poly) (oa ob : O) (hoa : oa = .pt (sm a) ∨ oa = .d (.tuple (sm a))) (hob : ob = .pt (sm b) ∨ ob = .d (.tuple (sm b))) (hn : 1 ≤ n) (hn6 : n ≤ 6) (ha : ∀ p ∈ a, p.1.length = n ∧ p.2.natAbs < 2 ^ 64) (hb : ∀ p ∈ b, p.1.length = n) (hl : a.length ≤ 100) (hl2 : b.length ≤ 100) :
    runP Φ 8 a_multiplied_term_sums [oa, ob] = some (.pt (sm (toldP (acc (prods a b) [])))) := by
  obtain ⟨da, fa⟩ := seq_sm a oa hoa
  obtain ⟨db, fb⟩ := seq_sm b ob hob
  apply Ex.get
  unfold a_multiplied_term_sums
  rw [q_runP]
  show Ex (x := evSs Φ _ ⟨[some oa, some ob, none, none, none, none, none, none], none⟩) _
  and_intros
  rw [fa]
  and_intros
  rw [da]
  and_intros
  have lenD : ∀ d d2 : Poly, d.length ≤ 100 → d2.length ≤ 100 → (acc (prods d b) []).length + d2.length < sizeLine := fun d d2 hd hd2 => by
    have e1 := acc_len (prods d b) []
    rw [prods_len] at e1
    have e2 : d.length * b.length ≤ 100 * 100 := Nat.mul_le_mul hd hl2
    rw [sizeLine_eq]
    simp only [List.length_nil] at e1
    omega
  refine for_pre (fun p : List Nat × Int => PyData.tuple [tm p.1, .int p.2]) (fun d st => ∃ c3 c4 c5 c6 c7 : Option O, st = ⟨[some oa, some ob, some (.dct true (kv (acc (prods d b) []))), c3, c4, c5, c6, c7], none⟩) a _ ⟨_, _, _, _, _, rfl⟩ ?_ ?_
  · rintro d p r st e ⟨c3, c4, c5, c6, c7, rfl⟩
    have hpa : p ∈ a := by rw [e]; exact List.mem_append_right _ List.mem_cons_self
    have hk : p.1.length = n := (ha p hpa).1
    have hd : d.length ≤ 100 := by rw [e, List.length_append, List.length_cons] at hl; omega
    and_intros
    rw [fb]
    and_intros
    rw [db]
    and_intros
    refine for_pre (fun p : List Nat × Int => PyData.tuple [tm p.1, .int p.2]) (fun d2 st => ∃ c5 c6 c7 : Option O, st = ⟨[some oa, some ob, some (.dct true (kv (acc (d2.map fun q : List Nat × Int => (addT p.1 q.1, p.2 * q.2)) (acc (prods d b) [])))), some (.d (tm p.1)), some (.d (.int p.2)), c5, c6, c7], none⟩) b _ ⟨_, _, _, rfl⟩ ?_ ?_
    · rintro d2 q r2 st e2 ⟨c5, c6, c7, rfl⟩
      have hqb : q ∈ b := by rw [e2]; exact List.mem_append_right _ List.mem_cons_self
      have hq : q.1.length = n := hb q hqb
      have hd2 : d2.length ≤ 100 := by rw [e2, List.length_append, List.length_cons] at hl2; omega
      and_intros
      rw [q_call hm]
      and_intros
      rw [ex_eq (mul_spec p.1 q.1 (hk.trans hq.symm) (len_ne hn hk) (by omega))]
      and_intros
      have hs := addT_len hk hq
      rw [q_sti _ _ _ _ ⟨_, rfl⟩]
      and_intros
      rw [get2_kv (len_ne hn hs)]
      and_intros
      rw [bin_mulS (.inl (ha p hpa).2)]
      and_intros
      rw [stAt_kv rfl (len_ne hn hs) ?_]
      · and_intros
        rw [List.map_append, acc_append]
        exact ⟨_, _, _, rfl⟩
      · have e1 := acc_len (d2.map fun q : List Nat × Int => (addT p.1 q.1, p.2 * q.2)) (acc (prods d b) [])
        rw [List.length_map] at e1
        exact Nat.lt_of_le_of_lt e1 (lenD d d2 hd hd2)
    · rintro st ⟨c5, c6, c7, rfl⟩
      and_intros
      rw [show prods (d ++ [p]) b = prods d b ++ b.map fun q : List Nat × Int => (addT p.1 q.1, p.2 * q.2) by unfold prods; rw [List.flatMap_append, List.flatMap_cons, List.flatMap_nil, List.append_nil], acc_append]
      exact ⟨_, _, _, _, _, rfl⟩
  · rintro st ⟨c3, c4, c5, c6, c7, rfl⟩
    and_intros
    rw [q_call ht]
    and_intros
    rw [ex_eq (told_spec hn (D := acc (prods a b) []) (acc_all (fun p hp => (List.not_mem_nil hp).elim) fun p hp c => ?_) (Nat.le_of_lt (lenD a [] hl (by simp))))]
    · and_intros
    · obtain ⟨q, hq, hp⟩ := List.mem_flatMap.1 hp
      obtain ⟨q2, hq2, rfl⟩ := List.mem_map.1 hp
      exact addT_len (ha q hq).1 (hb q2 hq2)
theorem addT_comm : ∀ a b : List Nat, addT a b = addT b a := fun a b => by
  unfold addT
  rw [List.zipWith_comm]
  congr 1
  funext x y
  exact Nat.add_comm _ _
theorem fm_cons {α β : Type} (g : α → β) (h : α → List β) : ∀ b : List α, (b.flatMap fun y => g y :: h y).Perm (b.map g ++ b.flatMap h)
  | [] => .refl _
  | y :: b => by
    rw [List.flatMap_cons, List.flatMap_cons, List.map_cons, List.cons_append, List.cons_append]
    refine .cons _ ?_
    refine (List.Perm.append_left _ (fm_cons g h b)).trans ?_
    rw [← List.append_assoc, ← List.append_assoc]
    exact List.Perm.append_right _ List.perm_append_comm
theorem fm_perm {α β γ : Type} (f : α → β → γ) : ∀ (a : List α) (b : List β), (a.flatMap fun x => b.map fun y => f x y).Perm (b.flatMap fun y => a.map fun x => f x y)
  | [], b => by
    rw [List.flatMap_nil]
    rw [show (b.flatMap fun y => ([] : List α).map fun x => f x y) = [] by simp]
  | x :: a, b => by
    rw [List.flatMap_cons]
    refine (List.Perm.append_left _ (fm_perm f a b)).trans ?_
    exact (fm_cons (fun y => f x y) (fun y => a.map fun x => f x y) b).symm
theorem prods_comm (a b : Poly) : (prods a b).Perm (prods b a) := by
  unfold prods
  have : (b.flatMap fun p => a.map fun q : List Nat × Int => (addT p.1 q.1, p.2 * q.2)) = b.flatMap fun p => a.map fun q : List Nat × Int => (addT q.1 p.1, q.2 * p.2) := by
    congr 1; funext p; congr 1; funext q; rw [addT_comm, Int.mul_comm]
  rw [this]
  exact fm_perm (fun (p q : List Nat × Int) => (addT p.1 q.1, p.2 * q.2)) a b
end K85


set_option Elab.async false
set_option linter.all false
set_option maxRecDepth 100000
set_option maxHeartbeats 4000000
namespace K85
open PySem PySem.Spec PyProof.Rows L2 Vm

local macro_rules | `(tactic| and_intros) => `(tactic| simp -dsimp only [q_int, q_bl, q_non, q_str, q_var, q_bor, q_mov, q_bin, q_neg, q_cmp, q_not, q_and, q_or, q_ife, q_tup, q_lst, q_idx, q_slc, q_rev, q_fn, q_mt, q_lcStep, q_lc, q_dnew, q_dof, q_sg, q_sl, q_sp, q_nil, q_cons, q_oeno, q_oeyes, q_ocno, q_ocyes, q_tv, q_tand, q_tor, q_tnot, q_seq, q_rng1, q_rng2, q_zip, q_zips, outK_nx, outK_ret, outK_brk, outK_cnt, q_snil, q_scons, q_set, q_par, q_ifs, q_forStep, q_forr, q_whl, q_ret, q_retn, q_brk, q_cnt, q_pass, q_sw, retP_ret, retS_ret, ex_some, ex_none, ex_iteN, ex_map, ex_bind,
  rdVar, rdBor, rdMov, frz_d, frz_pt, frz_lst, frz_mat, frz_dct, frz_fdct, frz_src, List.getElem?_cons_zero, List.getElem?_cons_succ, St.set, List.set_cons_zero, List.set_cons_succ, Option.map_some, Option.map_none, Option.bind_some, Option.bind_none, isSrc, sget_left, sget_mixed, sget_turn, sput_left, sput_mixed, sput_turn, vw_d, vw_pt, vw_lst, cmp_lt, cmp_gt, cmp_le, cmp_ge, cmp_eqI, cmp_neI, bin_add, bin_sub, tru_b, boolO, intO, put, puts, slot_d, slot_pt, slot_lst, slot_mat, slot_dct, slot_fdct, List.length_cons, List.length_nil, Nat.zero_le, sl_1, sl_2, sl_3, sl_4, sl_5, sl_6, sl_7, sl_8, sl_9, sl_10, sl_11, sl_12, sl_13, sl_14, sl_15, sl_16, sl_17, sl_18, sl_19, sl_20, sl_21, sl_22, sl_23, sl_24, sl_25, sl_26, sl_27, sl_28, sl_29, sl_30, sl_31, sl_32, sl_33, sl_34, sl_35, sl_36, sl_37, sl_38, sl_39, sl_40, Nat.reduceAdd, Nat.reduceLT, Nat.reduceLeDiff, cmp_eqNil, and_true, true_and, and_self, forall_const, true_implies, false_implies, reduceCtorEq, decide_eq_true_eq, decide_eq_false_iff_not, if_true, if_false, Int.reduceNeg, Option.some.injEq, pr_lenL, pr_lenH, pr_lenT, pr_lenD, pr_abs, pr_intI, pr_intB, pr_all, pr_any, pr_sum, pr_max, pr_min, pr_max2, pr_min2, pr_tupL', pr_tupT, pr_listL, pr_listT, pr_sortL, pr_sortD, cmp_isB, cmp_isnB, tru_i, cmp_neNil, add_L, add_T, slc_L, slc_T, rev_L, rev_T, seqP_pt, seqP_lst, seqP_dl, tupO_dat, tupO_frz, tupO_slot, tupO_free, tupO_vw, vwAll, datAll, dat_d, dat_pt, dat_lst, dat_mat, dat_dct0, implies_true, frzAll, vw, vw0, seqOf, mtTy, List.all_cons, List.all_nil, free_d, free_pt, free_lst, free_dct, free_fdct, Bool.and_self, Bool.and_true, Bool.true_and, idx_list, idx_tup, at_c0, at_c1, clr, asg, asgs, List.length_map, Bool.not_eq_true', Bool.not_eq_false', Bool.not_true, Bool.not_false, Bool.false_eq_true])
def isNat : PyData → Bool
  | .int i => decide (0 ≤ i)
  | _ => false
/-- a term of n crossings -/
def isTm (n : Int) : PyData → Bool
  | .tuple xs => decide ((xs.length : Int) = n) && xs.all isNat
  | _ => false
theorem filterMap_some {α β : Type} (f : α → β) : ∀ xs : List α, xs.filterMap (fun x => some (f x)) = xs.map f
  | [] => rfl
  | x :: xs => by rw [List.filterMap_cons, filterMap_some f xs, List.map_cons]
theorem isTup_or (x : PyData) : (∃ xs, x = .tuple xs) ∨ isTup x = false := by
  cases x <;> simp [isTup]
theorem isInt_or (x : PyData) : (∃ i, x = .int i) ∨ isZ x = false := by
  cases x <;> simp [isZ]
theorem okV_tup {B : Nat} {xs : List PyData} (h : okV B (.tuple xs) = true) : ∀ x ∈ xs, okV B x = true := by
  rw [okV] at h
  exact (okVs_iff B xs).1 h
theorem isterm_spec {Φ : Fs} (n : Int) {B : Nat} (x : PyData) (h : okV B x = true) (hl : x.bulk ≤ sizeLine) : runP Φ 3 a_is_term [.d (.int n), .d x] = some (.d (.bool (isTm n x))) := by
  apply Ex.get
  unfold a_is_term
  rw [q_runP]
  show Ex (x := evSs Φ _ ⟨[some (.d (.int n)), some (.d x), none], none⟩) _
  and_intros
  rw [isi_tup h]
  and_intros
  rcases isTup_or x with ⟨xs, rfl⟩ | ht
  · rw [show isTup (.tuple xs) = true from rfl]
    and_intros
    refine ⟨fun hn => ?_, fun hn => ?_⟩
    · unfold isTm
      simp [hn]
    · rw [lc_pure (fun y => some (.d (.bool (isNat y)))) xs fun y hy => ?_]
      · and_intros
        rw [filterMap_some, datAll_d (fun y => PyData.bool (isNat y))]
        and_intros
        rw [boolsOf_map]
        and_intros
        refine ⟨?_, ?_⟩
        · rw [PyData.bulk] at hl
          exact Nat.le_trans (bulkAll_len xs) hl
        · unfold isTm
          simp [hn, List.all_map]
      · have hy := okV_tup h y hy
        and_intros
        rw [isi_int hy]
        and_intros
        refine ⟨fun h1 => ?_, fun h1 => ?_⟩
        · rw [isi_bl hy]
          and_intros
          refine ⟨fun h2 => ?_, fun h2 => ?_⟩
          · cases y with
            | int i =>
              and_intros
              rw [show (!decide (i < 0)) = isNat (.int i) by simp only [isNat]; rw [Bool.eq_iff_iff]; simp]
            | _ => simp_all [isZ, isBl]
          · cases y <;> simp_all [isZ, isBl, isNat]
        · cases y <;> simp_all [isZ, isBl, isNat]
  · rw [ht]
    and_intros
    cases x <;> first | rfl | cases ht
theorem isint_spec {Φ : Fs} {B : Nat} (x : PyData) (h : okV B x = true) : runP Φ 1 a_law_is_int [.d x] = some (.d (.bool (isZ x))) := by
  apply Ex.get
  unfold a_law_is_int
  rw [q_runP]
  show Ex (x := evSs Φ _ ⟨[some (.d x)], none⟩) _
  and_intros
  rw [isi_int h]
  and_intros
  refine ⟨fun h1 => ?_, fun h1 => ?_⟩
  · rw [isi_bl h]
    and_intros
    cases x <;> simp_all [isZ, isBl]
  · cases x <;> simp_all [isZ, isBl]
theorem filterMap_ifB {α β : Type} (p : α → Bool) (f : α → β) : ∀ xs : List α, (xs.filterMap fun x => if p x then some (f x) else none) = (xs.filter p).map f
  | [] => rfl
  | x :: xs => by
    rw [List.filterMap_cons, List.filter_cons]
    cases h : p x
    · simp [filterMap_ifB p f xs]
    · simp [filterMap_ifB p f xs]
theorem lawterm_spec {Φ Φ' : Fs} (hi : Φ.p "_law_is_int" = some (1, runP Φ' 1 a_law_is_int)) (n : Int) {B : Nat} (x : PyData) (h : okV B x = true) (hl : x.bulk ≤ sizeLine) : runP Φ 3 a_law_is_term [.d (.int n), .d x] = some (.d (.bool (isTm n x))) := by
  apply Ex.get
  unfold a_law_is_term
  rw [q_runP]
  show Ex (x := evSs Φ _ ⟨[some (.d (.int n)), some (.d x), none], none⟩) _
  and_intros
  rw [isi_tup h]
  and_intros
  rcases isTup_or x with ⟨xs, rfl⟩ | ht
  · rw [show isTup (.tuple xs) = true from rfl]
    and_intros
    refine ⟨fun hn => ?_, fun hn => ?_⟩
    · rw [lc_pure (fun y => if isNat y = false then some (.d y) else none) xs fun y hy => ?_]
      · and_intros
        rw [filterMap_if (fun y => isNat y = false), datAll_d (fun y => y)]
        and_intros
        rw [List.map_id']
        refine ⟨?_, ?_⟩
        · rw [PyData.bulk] at hl
          exact Nat.le_trans (List.length_filter_le _ _) (Nat.le_trans (bulkAll_len xs) hl)
        · refine congrArg (fun b => O.d (PyData.bool b)) ?_
          unfold isTm
          rw [Bool.eq_iff_iff]
          simp [hn, List.isEmpty_iff, List.filter_eq_nil_iff]
      · have hy := okV_tup h y hy
        and_intros
        rw [q_call hi]
        and_intros
        rw [ex_eq (isint_spec y hy)]
        and_intros
        refine ⟨fun h1 => ?_, fun h1 => ?_⟩
        · cases y <;> simp_all [isZ, isNat]
        · obtain ⟨i, rfl⟩ : ∃ i, y = .int i := by cases y <;> simp_all [isZ]
          and_intros
          refine ⟨fun h2 => ?_, fun h2 => ?_⟩
          · simp [isNat, h2]
          · simp [isNat]; omega
    · unfold isTm
      simp [hn]
  · rw [ht]
    and_intros
    cases x <;> first | rfl | cases ht
end K85


set_option Elab.async false
set_option linter.all false
set_option maxRecDepth 100000
set_option maxHeartbeats 4000000
namespace K85
open PySem PySem.Spec PyProof.Rows L2 Vm

local macro_rules | `(tactic| and_intros) => `(tactic| simp -dsimp only [q_int, q_bl, q_non, q_str, q_var, q_bor, q_mov, q_bin, q_neg, q_cmp, q_not, q_and, q_or, q_ife, q_tup, q_lst, q_idx, q_slc, q_rev, q_fn, q_mt, q_lcStep, q_lc, q_dnew, q_dof, q_sg, q_sl, q_sp, q_nil, q_cons, q_oeno, q_oeyes, q_ocno, q_ocyes, q_tv, q_tand, q_tor, q_tnot, q_seq, q_rng1, q_rng2, q_zip, q_zips, outK_nx, outK_ret, outK_brk, outK_cnt, q_snil, q_scons, q_set, q_par, q_ifs, q_forStep, q_forr, q_whl, q_ret, q_retn, q_brk, q_cnt, q_pass, q_sw, retP_ret, retS_ret, ex_some, ex_none, ex_iteN, ex_map, ex_bind,
  rdVar, rdBor, rdMov, frz_d, frz_pt, frz_lst, frz_mat, frz_dct, frz_fdct, frz_src, List.getElem?_cons_zero, List.getElem?_cons_succ, St.set, List.set_cons_zero, List.set_cons_succ, Option.map_some, Option.map_none, Option.bind_some, Option.bind_none, isSrc, sget_left, sget_mixed, sget_turn, sput_left, sput_mixed, sput_turn, vw_d, vw_pt, vw_lst, cmp_lt, cmp_gt, cmp_le, cmp_ge, cmp_eqI, cmp_neI, bin_add, bin_sub, tru_b, boolO, intO, put, puts, slot_d, slot_pt, slot_lst, slot_mat, slot_dct, slot_fdct, List.length_cons, List.length_nil, Nat.zero_le, sl_1, sl_2, sl_3, sl_4, sl_5, sl_6, sl_7, sl_8, sl_9, sl_10, sl_11, sl_12, sl_13, sl_14, sl_15, sl_16, sl_17, sl_18, sl_19, sl_20, sl_21, sl_22, sl_23, sl_24, sl_25, sl_26, sl_27, sl_28, sl_29, sl_30, sl_31, sl_32, sl_33, sl_34, sl_35, sl_36, sl_37, sl_38, sl_39, sl_40, Nat.reduceAdd, Nat.reduceLT, Nat.reduceLeDiff, cmp_eqNil, and_true, true_and, and_self, forall_const, true_implies, false_implies, reduceCtorEq, decide_eq_true_eq, decide_eq_false_iff_not, if_true, if_false, Int.reduceNeg, Option.some.injEq, pr_lenL, pr_lenH, pr_lenT, pr_lenD, pr_abs, pr_intI, pr_intB, pr_all, pr_any, pr_sum, pr_max, pr_min, pr_max2, pr_min2, pr_tupL', pr_tupT, pr_listL, pr_listT, pr_sortL, pr_sortD, cmp_isB, cmp_isnB, tru_i, cmp_neNil, add_L, add_T, slc_L, slc_T, rev_L, rev_T, seqP_pt, seqP_lst, seqP_dl, tupO_dat, tupO_frz, tupO_slot, tupO_free, tupO_vw, vwAll, datAll, dat_d, dat_pt, dat_lst, dat_mat, dat_dct0, implies_true, frzAll, vw, vw0, seqOf, mtTy, List.all_cons, List.all_nil, free_d, free_pt, free_lst, free_dct, free_fdct, Bool.and_self, Bool.and_true, Bool.true_and, idx_list, idx_tup, at_c0, at_c1, clr, asg, asgs, List.length_map, Bool.not_eq_true', Bool.not_eq_false', Bool.not_true, Bool.not_false, Bool.false_eq_true])
/-- a pair of a term and a number, not 0 -/
def isPr (n : Int) : PyData → Bool
  | .tuple [t, .int i] => isTm n t && !decide (i = 0)
  | _ => false
def hd (xs : List PyData) (k : Nat) : PyData := match xs[k]? with
  | some (.tuple (t :: _)) => t
  | _ => .none
def adjX (xs : List PyData) : Bool := (List.range (xs.length - 1)).all fun k => PySem.W.dataLt (hd xs k) (hd xs (k + 1))
def isSm (n : Int) : PyData → Bool
  | .tuple xs => xs.all (isPr n) && adjX xs
  | _ => false
def isPair : PyData → Bool
  | .tuple [_, _] => true
  | _ => false
theorem isTm_tm {n : Nat} {t : PyData} (h : isTm n t = true) : ∃ ks : List Nat, t = tm ks ∧ ks.length = n := by
  cases t with
  | tuple xs =>
    simp only [isTm, Bool.and_eq_true, decide_eq_true_eq, List.all_eq_true] at h
    obtain ⟨h1, h2⟩ := h
    have go : ∀ ys : List PyData, (∀ y ∈ ys, isNat y = true) → ∃ ks : List Nat, ys = nums ks := by
      intro ys
      induction ys with
      | nil => exact fun _ => ⟨[], rfl⟩
      | cons y ys ih =>
        intro hy
        obtain ⟨ks, rfl⟩ := ih fun z hz => hy z (List.mem_cons_of_mem _ hz)
        have h3 := hy y List.mem_cons_self
        cases y with
        | int i =>
          simp only [isNat, decide_eq_true_eq] at h3
          refine ⟨i.toNat :: ks, ?_⟩
          show _ = PyData.int _ :: nums ks
          rw [Int.toNat_of_nonneg h3]
        | _ => simp [isNat] at h3
    obtain ⟨ks, rfl⟩ := go xs h2
    refine ⟨ks, rfl, ?_⟩
    rw [nums_length] at h1
    omega
  | _ => simp [isTm] at h
theorem hd_cmp {n : Nat} {xs : List PyData} (h : ∀ x ∈ xs, isPr n x = true) {k : Nat} (hk : k < xs.length) : ∃ ks : List Nat, ∃ c : Int, xs[k]? = some (.tuple [tm ks, .int c]) ∧ hd xs k = tm ks ∧ ks.length = n := by
  have h1 := h xs[k] (List.getElem_mem hk)
  have e : xs[k]? = some xs[k] := List.getElem?_eq_getElem hk
  revert h1 e
  generalize xs[k] = y
  intro h1 e
  unfold isPr at h1
  split at h1
  · rw [Bool.and_eq_true] at h1
    obtain ⟨ks, rfl, hl⟩ := isTm_tm h1.1
    refine ⟨ks, _, e, ?_, hl⟩
    unfold hd
    rw [e]
  · cases h1
theorem cmpOk_tm {a b : List Nat} (h : a.length = b.length) : cmpOk (tm a) (tm b) = true := by
  unfold cmpOk
  rw [alike_nums a b h]
  rw [decide_eq_true (Nat.le_trans (depth_tm a) (by decide))]
  rfl
theorem cmp_leT {a b : List Nat} (h : a.length = b.length) : cmpSem .le (.d (tm a)) (.d (tm b)) = some (!PySem.W.dataLt (tm b) (tm a)) := by
  show (if cmpOk (tm a) (tm b) = true then _ else _) = _
  rw [if_pos (cmpOk_tm h)]
theorem cmp_ltT {a b : List Nat} (h : a.length = b.length) : cmpSem .lt (.d (tm a)) (.d (tm b)) = some (PySem.W.dataLt (tm a) (tm b)) := by
  show (if cmpOk (tm a) (tm b) = true then _ else _) = _
  rw [if_pos (cmpOk_tm h)]
theorem rngD_eq (a : Int) (n : Nat) : rngD a n = (List.range n).map fun (k : Nat) => PyData.int (a + (k : Int)) := rfl
theorem isPr_tup {n : Int} {x : PyData} (h : isTup x = false) : isPr n x = false := by
  cases x <;> simp_all [isPr, isTup]
theorem isSm_no {n : Int} {xs : List PyData} {x : PyData} (hx : x ∈ xs) (h : isPr n x = false) : isSm n (.tuple xs) = false := by
  unfold isSm
  rw [Bool.and_eq_false_iff]
  refine .inl ?_
  rw [List.all_eq_false]
  exact ⟨x, hx, by rw [h]; decide⟩
theorem bulk_mem {xs : List PyData} {x : PyData} {m : Nat} (hx : x ∈ xs) (h : (PyData.tuple xs).bulk ≤ m) : x.bulk ≤ m := by
  rw [PyData.bulk] at h
  have := bulkAll_mem hx
  omega
theorem pair_or (xs : List PyData) : (∃ a b, xs = [a, b]) ∨ xs.length ≠ 2 := by
  match xs with
  | [] => simp
  | [_] => simp
  | [a, b] => exact .inl ⟨a, b, rfl⟩
  | _ :: _ :: _ :: _ => simp
theorem isPr_len {n : Int} {xs : List PyData} (h : xs.length ≠ 2) : isPr n (.tuple xs) = false := by
  unfold isPr
  split
  · next e => cases e; simp at h
  · rfl
theorem tail_eq {n : Nat} {xs : List PyData} (h : ∀ x ∈ xs, isPr n x = true) : isSm n (.tuple xs) = adjX xs := by
  show (xs.all (isPr n) && adjX xs) = _
  rw [List.all_eq_true.2 h, Bool.true_and]
theorem empty_eq (xs : List PyData) : ((List.range (xs.length - 1)).filter fun k => decide (PySem.W.dataLt (hd xs k) (hd xs (k + 1)) = false)).isEmpty = adjX xs := by
  unfold adjX
  rw [Bool.eq_iff_iff]
  simp [List.isEmpty_iff, List.filter_eq_nil_iff]
theorem toNat_len (xs : List PyData) : ((xs.length : Int) - 1).toNat = xs.length - 1 := by omega
theorem bnd_len {m : Nat} (h : m ≤ sizeLine) : (inBnd 1 && inBnd (m : Int)) = true := by
  rw [sizeLine_eq] at h
  simp only [inBnd, Bool.and_eq_true, decide_eq_true_eq]
  omega
theorem issum_spec {Φ Φ' : Fs} (ht : Φ.p "is_term" = some (2, runP Φ' 3 a_is_term)) (n : Nat) {B : Nat} (x : PyData) (h : okV B x = true) (hl : x.bulk ≤ sizeLine) : runP Φ 4 a_is_term_sum [.d (.int n), .d x] = some (.d (.bool (isSm n x))) := by
  apply Ex.get
  unfold a_is_term_sum
  rw [q_runP]
  show Ex (x := evSs Φ _ ⟨[some (.d (.int n)), some (.d x), none, none], none⟩) _
  and_intros
  rw [isi_tup h]
  and_intros
  rcases isTup_or x with ⟨xs, rfl⟩ | hx
  · rw [show isTup (.tuple xs) = true from rfl]
    and_intros
    have hlen : xs.length ≤ sizeLine := by
      rw [PyData.bulk] at hl
      exact Nat.le_trans (bulkAll_len xs) hl
    refine for_pre0 (fun d st => (∀ x ∈ d, isPr n x = true) ∧ ∃ c2 c3 : Option O, st = ⟨[some (.d (.int n)), some (.d (.tuple xs)), c2, c3], none⟩) xs _ ⟨fun _ z => (List.not_mem_nil z).elim, _, _, rfl⟩ ?_ ?_
    · rintro d y r st e ⟨hd, c2, c3, rfl⟩
      have hy : y ∈ xs := by rw [e]; exact List.mem_append_right _ List.mem_cons_self
      have oky := okV_tup h y hy
      and_intros
      rw [isi_tup oky]
      and_intros
      rcases isTup_or y with ⟨ys, rfl⟩ | hz
      · rw [show isTup (.tuple ys) = true from rfl]
        and_intros
        rcases pair_or ys with ⟨a, b, rfl⟩ | h2
        · and_intros
          have oka := okV_tup oky a List.mem_cons_self
          have okb := okV_tup oky b (List.mem_cons_of_mem _ List.mem_cons_self)
          refine ⟨fun z => absurd rfl z, fun _ => ?_⟩
          rw [q_call ht]
          and_intros
          rw [ex_eq (isterm_spec n a oka (Nat.le_trans (by rw [PyData.bulk, PyData.bulkAll]; omega) (bulk_mem hy hl)))]
          and_intros
          refine ⟨fun h3 => ?_, fun h3 => ?_⟩
          · rw [isSm_no hy]
            unfold isPr
            split
            · next e => cases e; rw [h3]; rfl
            · rfl
          · rw [isi_int okb]
            and_intros
            refine ⟨fun h4 => ?_, fun h4 => ?_⟩
            · rw [isSm_no hy]
              unfold isPr
              split
              · next e => cases e; simp [isZ] at h4
              · rfl
            · rw [isi_bl okb]
              and_intros
              refine ⟨fun h5 => ?_, fun h5 => ?_⟩
              · rw [isSm_no hy]
                unfold isPr
                split
                · next e => cases e; simp [isBl] at h5
                · rfl
              · obtain ⟨i, rfl⟩ : ∃ i, b = .int i := by cases b <;> simp_all [isZ, isBl]
                and_intros
                refine ⟨fun h6 => ?_, fun h6 => ?_⟩
                · rw [isSm_no hy]
                  unfold isPr
                  simp [h6]
                · refine ⟨fun x hx => ?_, _, _, rfl⟩
                  rcases List.mem_append.1 hx with q | q
                  · exact hd x q
                  · rw [List.mem_singleton.1 q]
                    unfold isPr
                    simp [h3, h6]
        · refine ⟨fun _ => ?_, fun h3 => absurd ?_ h2⟩
          · rw [isSm_no hy (isPr_len h2)]
          · omega
      · rw [hz]
        and_intros
        rw [isSm_no hy (isPr_tup hz)]
    · rintro st ⟨hp, c2, c3, rfl⟩
      and_intros
      refine ⟨bnd_len hlen, ?_⟩
      rw [rngD_eq, toNat_len]
      refine Ex.of (lc_pureM (fun k : Nat => PyData.int (1 + (k : Int))) (fun k : Nat => if PySem.W.dataLt (hd xs k) (hd xs (k + 1)) = false then some (.d (.int (1 + (k : Int)))) else none) (List.range (xs.length - 1)) fun k hk => ?_) ?_
      · have hk : k < xs.length - 1 := List.mem_range.1 hk
        obtain ⟨a, ca, e1, e2, e3⟩ := hd_cmp hp (k := k) (by omega)
        obtain ⟨b, cb, g1, g2, g3⟩ := hd_cmp hp (k := k + 1) (by omega)
        and_intros
        rw [show (1 : Int) + (k : Int) = ((k + 1 : Nat) : Int) by omega, atI_nat g1]
        and_intros
        rw [show ((k + 1 : Nat) : Int) - 1 = (k : Int) by omega, atI_nat e1]
        and_intros
        rw [cmp_leT (g3.trans e3.symm), e2, g2]
        and_intros
        refine ⟨fun q => ?_, fun q => ?_⟩
        · simp [q]
        · simp [q]
      · and_intros
        rw [filterMap_if (fun k : Nat => PySem.W.dataLt (hd xs k) (hd xs (k + 1)) = false)]
        rw [datAll_d (fun k : Nat => PyData.int (1 + (k : Int)))]
        and_intros
        refine ⟨?_, ?_⟩
        · refine Nat.le_trans (List.length_filter_le _ _) ?_
          rw [List.length_range]
          omega
        · rw [List.isEmpty_map, empty_eq, tail_eq hp]
  · rw [hx]
    and_intros
    cases x <;> first | rfl | cases hx
end K85


set_option Elab.async false
set_option linter.all false
set_option maxRecDepth 100000
set_option maxHeartbeats 4000000
namespace K85
open PySem PySem.Spec PyProof.Rows L2 Vm

local macro_rules | `(tactic| and_intros) => `(tactic| simp -dsimp only [q_int, q_bl, q_non, q_str, q_var, q_bor, q_mov, q_bin, q_neg, q_cmp, q_not, q_and, q_or, q_ife, q_tup, q_lst, q_idx, q_slc, q_rev, q_fn, q_mt, q_lcStep, q_lc, q_dnew, q_dof, q_sg, q_sl, q_sp, q_nil, q_cons, q_oeno, q_oeyes, q_ocno, q_ocyes, q_tv, q_tand, q_tor, q_tnot, q_seq, q_rng1, q_rng2, q_zip, q_zips, outK_nx, outK_ret, outK_brk, outK_cnt, q_snil, q_scons, q_set, q_par, q_ifs, q_forStep, q_forr, q_whl, q_ret, q_retn, q_brk, q_cnt, q_pass, q_sw, retP_ret, retS_ret, ex_some, ex_none, ex_iteN, ex_map, ex_bind,
  rdVar, rdBor, rdMov, frz_d, frz_pt, frz_lst, frz_mat, frz_dct, frz_fdct, frz_src, List.getElem?_cons_zero, List.getElem?_cons_succ, St.set, List.set_cons_zero, List.set_cons_succ, Option.map_some, Option.map_none, Option.bind_some, Option.bind_none, isSrc, sget_left, sget_mixed, sget_turn, sput_left, sput_mixed, sput_turn, vw_d, vw_pt, vw_lst, cmp_lt, cmp_gt, cmp_le, cmp_ge, cmp_eqI, cmp_neI, bin_add, bin_sub, tru_b, boolO, intO, put, puts, slot_d, slot_pt, slot_lst, slot_mat, slot_dct, slot_fdct, List.length_cons, List.length_nil, Nat.zero_le, sl_1, sl_2, sl_3, sl_4, sl_5, sl_6, sl_7, sl_8, sl_9, sl_10, sl_11, sl_12, sl_13, sl_14, sl_15, sl_16, sl_17, sl_18, sl_19, sl_20, sl_21, sl_22, sl_23, sl_24, sl_25, sl_26, sl_27, sl_28, sl_29, sl_30, sl_31, sl_32, sl_33, sl_34, sl_35, sl_36, sl_37, sl_38, sl_39, sl_40, Nat.reduceAdd, Nat.reduceLT, Nat.reduceLeDiff, cmp_eqNil, and_true, true_and, and_self, forall_const, true_implies, false_implies, reduceCtorEq, decide_eq_true_eq, decide_eq_false_iff_not, if_true, if_false, Int.reduceNeg, Option.some.injEq, pr_lenL, pr_lenH, pr_lenT, pr_lenD, pr_abs, pr_intI, pr_intB, pr_all, pr_any, pr_sum, pr_max, pr_min, pr_max2, pr_min2, pr_tupL', pr_tupT, pr_listL, pr_listT, pr_sortL, pr_sortD, cmp_isB, cmp_isnB, tru_i, cmp_neNil, add_L, add_T, slc_L, slc_T, rev_L, rev_T, seqP_pt, seqP_lst, seqP_dl, tupO_dat, tupO_frz, tupO_slot, tupO_free, tupO_vw, vwAll, datAll, dat_d, dat_pt, dat_lst, dat_mat, dat_dct0, implies_true, frzAll, vw, vw0, seqOf, mtTy, List.all_cons, List.all_nil, free_d, free_pt, free_lst, free_dct, free_fdct, Bool.and_self, Bool.and_true, Bool.true_and, idx_list, idx_tup, at_c0, at_c1, clr, asg, asgs, List.length_map, Bool.not_eq_true', Bool.not_eq_false', Bool.not_true, Bool.not_false, Bool.false_eq_true])
theorem isPair_of {x : PyData} (h : isPair x = true) : ∃ a b, x = .tuple [a, b] := by
  unfold isPair at h
  split at h
  · exact ⟨_, _, rfl⟩
  · cases h
theorem isPr_pair {n : Int} {x : PyData} (h : isPair x = false) : isPr n x = false := by
  unfold isPr
  split
  · simp [isPair] at h
  · rfl
theorem lawsum_spec {Φ Φ' Φ'' Φ3 : Fs} (ht : Φ.p "_law_is_term" = some (2, runP Φ' 3 a_law_is_term)) (ht2 : Φ'.p "_law_is_int" = some (1, runP Φ3 1 a_law_is_int)) (hi : Φ.p "_law_is_int" = some (1, runP Φ'' 1 a_law_is_int)) (n : Nat) {B : Nat} (x : PyData) (h : okV B x = true) (hl : x.bulk ≤ sizeLine) : runP Φ 6 a_law_is_sum [.d (.int n), .d x] = some (.d (.bool (isSm n x))) := by
  apply Ex.get
  unfold a_law_is_sum
  rw [q_runP]
  show Ex (x := evSs Φ _ ⟨[some (.d (.int n)), some (.d x), none, none, none, none], none⟩) _
  and_intros
  rw [isi_tup h]
  and_intros
  rcases isTup_or x with ⟨xs, rfl⟩ | hx
  · rw [show isTup (.tuple xs) = true from rfl]
    and_intros
    have hlen : xs.length ≤ sizeLine := by
      rw [PyData.bulk] at hl
      exact Nat.le_trans (bulkAll_len xs) hl
    rw [lc_pure (fun y => if isPair y = false then some (.d y) else none) xs fun y hy => ?_]
    · rw [filterMap_if (fun y => isPair y = false)]
      and_intros
      rw [datAll_d (fun y => y)]
      and_intros
      rw [List.map_id']
      refine ⟨Nat.le_trans (List.length_filter_le _ _) hlen, fun hb => ?_, fun hb => ?_⟩
      · obtain ⟨y, hy⟩ := List.isEmpty_eq_false_iff_exists_mem.1 hb
        obtain ⟨h1, h2⟩ := List.mem_filter.1 hy
        rw [isSm_no h1 (isPr_pair (of_decide_eq_true h2))]
      · have hp : ∀ y ∈ xs, isPair y = true := fun y hy => by
          rw [List.isEmpty_iff, List.filter_eq_nil_iff] at hb
          have := hb y hy
          simpa using this
        refine for_pre0 (fun d st => (∀ x ∈ d, isPr n x = true) ∧ ∃ c2 c3 c4 c5 : Option O, st = ⟨[some (.d (.int n)), some (.d (.tuple xs)), c2, c3, c4, c5], none⟩) xs _ ⟨fun _ z => (List.not_mem_nil z).elim, _, _, _, _, rfl⟩ ?_ ?_
        · rintro d y r st e ⟨hd, c2, c3, c4, c5, rfl⟩
          have hy : y ∈ xs := by rw [e]; exact List.mem_append_right _ List.mem_cons_self
          have oky := okV_tup h y hy
          obtain ⟨a, b, rfl⟩ := isPair_of (hp y hy)
          have oka := okV_tup oky a List.mem_cons_self
          have okb := okV_tup oky b (List.mem_cons_of_mem _ List.mem_cons_self)
          and_intros
          rw [q_call ht]
          and_intros
          rw [ex_eq (lawterm_spec ht2 n a oka (Nat.le_trans (by rw [PyData.bulk, PyData.bulkAll]; omega) (bulk_mem hy hl)))]
          and_intros
          refine ⟨fun h3 => ?_, fun h3 => ?_⟩
          · rw [isSm_no hy]
            unfold isPr
            split
            · next e => cases e; rw [h3]; rfl
            · rfl
          · rw [q_call hi]
            and_intros
            rw [ex_eq (isint_spec b okb)]
            and_intros
            refine ⟨fun h4 => ?_, fun h4 => ?_⟩
            · rw [isSm_no hy]
              unfold isPr
              split
              · next e => cases e; simp [isZ] at h4
              · rfl
            · obtain ⟨i, rfl⟩ : ∃ i, b = .int i := by cases b <;> simp_all [isZ]
              and_intros
              refine ⟨fun h6 => ?_, fun h6 => ?_⟩
              · rw [isSm_no hy]
                unfold isPr
                simp [h6]
              · refine ⟨fun x hx => ?_, _, _, _, _, rfl⟩
                rcases List.mem_append.1 hx with q | q
                · exact hd x q
                · rw [List.mem_singleton.1 q]
                  unfold isPr
                  simp [h3, h6]
        · rintro st ⟨hp, c2, c3, c4, c5, rfl⟩
          and_intros
          refine ⟨bnd_len hlen, ?_⟩
          rw [rngD_eq, toNat_len]
          refine Ex.of (lc_pureM (fun k : Nat => PyData.int (1 + (k : Int))) (fun k : Nat => if PySem.W.dataLt (hd xs k) (hd xs (k + 1)) = false then some (.d (.int (1 + (k : Int)))) else none) (List.range (xs.length - 1)) fun k hk => ?_) ?_
          · have hk : k < xs.length - 1 := List.mem_range.1 hk
            obtain ⟨a, ca, e1, e2, e3⟩ := hd_cmp hp (k := k) (by omega)
            obtain ⟨b, cb, g1, g2, g3⟩ := hd_cmp hp (k := k + 1) (by omega)
            and_intros
            rw [show (1 : Int) + (k : Int) = ((k + 1 : Nat) : Int) by omega, show ((k + 1 : Nat) : Int) - 1 = (k : Int) by omega, atI_nat e1]
            and_intros
            rw [atI_nat g1]
            and_intros
            rw [cmp_ltT (e3.trans g3.symm), e2, g2]
            and_intros
            refine ⟨fun q => ?_, fun q => ?_⟩
            · simp [q]
            · simp [q]
          · and_intros
            rw [filterMap_if (fun k : Nat => PySem.W.dataLt (hd xs k) (hd xs (k + 1)) = false)]
            rw [datAll_d (fun k : Nat => PyData.int (1 + (k : Int)))]
            and_intros
            refine ⟨?_, ?_⟩
            · refine Nat.le_trans (List.length_filter_le _ _) ?_
              rw [List.length_range]
              omega
            · rw [List.isEmpty_map, empty_eq, tail_eq hp]
    · have oky := okV_tup h y hy
      and_intros
      rw [isi_tup oky]
      and_intros
      rcases isTup_or y with ⟨ys, rfl⟩ | hz
      · rw [show isTup (.tuple ys) = true from rfl]
        and_intros
        rcases pair_or ys with ⟨a, b, rfl⟩ | h2
        · refine ⟨fun z => absurd rfl z, fun _ => ?_⟩
          simp [isPair]
        · have : isPair (.tuple ys) = false := by
            unfold isPair
            split
            · next e => cases e; simp at h2
            · rfl
          refine ⟨fun _ => ?_, fun h3 => absurd ?_ h2⟩
          · rw [this]; simp
          · omega
      · rw [hz]
        and_intros
        have : isPair y = false := by cases y <;> simp_all [isPair, isTup]
        rw [this]; simp
  · rw [hx]
    and_intros
    cases x <;> first | rfl | cases hx
end K85


set_option Elab.async false
set_option linter.all false
set_option maxRecDepth 100000
set_option maxHeartbeats 4000000
set_option pp.maxSteps 400
namespace K85
open PySem PySem.Spec PyProof.Rows L2 Vm

local macro_rules | `(tactic| infer_instance) => `(tactic| simp -dsimp only [q_int, q_bl, q_non, q_str, q_var, q_bor, q_mov, q_bin, q_neg, q_cmp, q_not, q_and, q_or, q_ife, q_tup, q_lst, q_idx, q_slc, q_rev, q_fn, q_mt, q_lcStep, q_lc, q_dnew, q_dof, q_sg, q_sl, q_sp, q_nil, q_cons, q_oeno, q_oeyes, q_ocno, q_ocyes, q_tv, q_tand, q_tor, q_tnot, q_seq, q_rng1, q_rng2, q_zip, q_zips, outK_nx, outK_ret, outK_brk, outK_cnt, q_snil, q_scons, q_set, q_par, q_ifs, q_forStep, q_forr, q_whl, q_ret, q_retn, q_brk, q_cnt, q_pass, q_sw, retP_ret, retS_ret, ex_some, ex_none, ex_iteN, ex_map, ex_bind,
  rdVar, rdBor, rdMov, frz_d, frz_pt, frz_lst, frz_mat, frz_dct, frz_fdct, frz_src, List.getElem?_cons_zero, List.getElem?_cons_succ, St.set, List.set_cons_zero, List.set_cons_succ, Option.map_some, Option.map_none, Option.bind_some, Option.bind_none, isSrc, sget_left, sget_mixed, sget_turn, sput_left, sput_mixed, sput_turn, vw_d, vw_pt, vw_lst, cmp_lt, cmp_gt, cmp_le, cmp_ge, cmp_eqI, cmp_neI, bin_add, bin_sub, tru_b, boolO, intO, put, puts, slot_d, slot_pt, slot_lst, slot_mat, slot_dct, slot_fdct, List.length_cons, List.length_nil, Nat.zero_le, sl_1, sl_2, sl_3, sl_4, sl_5, sl_6, sl_7, sl_8, sl_9, sl_10, sl_11, sl_12, sl_13, sl_14, sl_15, sl_16, sl_17, sl_18, sl_19, sl_20, sl_21, sl_22, sl_23, sl_24, sl_25, sl_26, sl_27, sl_28, sl_29, sl_30, sl_31, sl_32, sl_33, sl_34, sl_35, sl_36, sl_37, sl_38, sl_39, sl_40, Nat.reduceAdd, Nat.reduceLT, Nat.reduceLeDiff, cmp_eqNil, and_true, true_and, and_self, forall_const, true_implies, false_implies, reduceCtorEq, decide_eq_true_eq, decide_eq_false_iff_not, if_true, if_false, Int.reduceNeg, Option.some.injEq, pr_lenL, pr_lenH, pr_lenT, pr_lenD, pr_abs, pr_intI, pr_intB, pr_all, pr_any, pr_sum, pr_max, pr_min, pr_max2, pr_min2, pr_tupL', pr_tupT, pr_listL, pr_listT, pr_sortL, pr_sortD, cmp_isB, cmp_isnB, tru_i, cmp_neNil, add_L, add_T, slc_L, slc_T, rev_L, rev_T, seqP_pt, seqP_lst, seqP_dl, tupO_dat, tupO_frz, tupO_slot, tupO_free, tupO_vw, vwAll, datAll, dat_d, dat_pt, dat_lst, dat_mat, dat_dct0, implies_true, frzAll, vw, vw0, seqOf, mtTy, List.all_cons, List.all_nil, free_d, free_pt, free_lst, free_dct, free_fdct, Bool.and_self, Bool.and_true, Bool.true_and, idx_list, idx_tup, at_c0, at_c1, clr, asg, asgs, List.length_map, Bool.not_eq_true', Bool.not_eq_false', Bool.not_true, Bool.not_false, Bool.false_eq_true])
/-- what is bent: tuples and numbers -/
structure Bs (x : PyData) : Prop where
  ok : okV (10 ^ 32) x = true
  nl : nolst x = true
  nd : x.hasDict = false
theorem Bs.mem {xs : List PyData} (h : Bs (.tuple xs)) {x : PyData} (hx : x ∈ xs) : Bs x := by
  obtain ⟨h1, h2, h3⟩ := h
  rw [okV] at h1
  rw [nolst] at h2
  rw [PyData.hasDict] at h3
  exact ⟨(okVs_iff _ xs).1 h1 x hx, (nolsts_iff xs).1 h2 x hx, (hasDictAll_iff xs).1 h3 x hx⟩
theorem Bs.fine {x : PyData} (h : Bs x) : Fine x x.depth x.bulk := ⟨okV.mono (by decide) x h.ok, Nat.le_refl _, Nat.le_refl _, .inl h.nd⟩
theorem bulk_split (xs : List PyData) (k : Nat) (hk : k < xs.length) : PyData.bulkAll xs = PyData.bulkAll (xs.take k) + (xs[k].bulk + 1) + PyData.bulkAll (xs.drop (k + 1)) := by
  have e : xs = xs.take k ++ xs[k] :: xs.drop (k + 1) := by
    rw [List.getElem_cons_drop, List.take_append_drop]
  have e2 := congrArg PyData.bulkAll e
  rw [bulkAll_append, PyData.bulkAll] at e2
  omega
/-- of parts of a plain tuple, and one more thing -/
theorem fine_mix {xs ys : List PyData} {D b : Nat} (h : Bs (.tuple xs)) {z : PyData} (hz : Fine z D b) (hy : ∀ y ∈ ys, y ∈ xs ∨ y = z) (hD : (PyData.tuple xs).depth ≤ D + 1) : Fine (.tuple ys) (D + 1) (PyData.bulkAll ys) := by
  refine ⟨?_, ?_, by rw [PyData.bulk]; exact Nat.le_refl _, ?_⟩
  · rw [okV, okVs_iff]
    intro y hyy
    rcases hy y hyy with q | rfl
    · exact (h.mem q).fine.ok
    · exact hz.ok
  · rw [PyData.depth]
    refine Nat.succ_le_succ (depthAll_le ys fun y hyy => ?_)
    rcases hy y hyy with q | rfl
    · rw [PyData.depth] at hD
      have := depthAll_mem q
      omega
    · exact hz.dep
  · rcases hz.nod with q | q
    · refine .inl ?_
      rw [PyData.hasDict, hasDictAll_iff]
      intro y hyy
      rcases hy y hyy with r | rfl
      · exact (h.mem r).nd
      · exact q
    · refine .inr ?_
      rw [nolst, nolsts_iff]
      intro y hyy
      rcases hy y hyy with r | rfl
      · exact (h.mem r).nl
      · exact q
theorem fine_part {xs ys : List PyData} (h : Bs (.tuple xs)) (hy : ∀ y ∈ ys, y ∈ xs) : Fine (.tuple ys) (PyData.tuple xs).depth (PyData.bulkAll ys) := by
  have h0 : Fine .none 0 0 := ⟨by rw [okV], by rw [PyData.depth]; exact Nat.le_refl _, by rw [PyData.bulk]; exact Nat.le_refl _, .inl (by rw [PyData.hasDict])⟩
  have := fine_mix h (D := PyData.depthAll xs) (b := 0) (h0.mono (Nat.zero_le _) (Nat.zero_le _)) (fun y hyy => .inl (hy y hyy)) (by rw [PyData.depth]; exact Nat.le_refl _)
  rw [PyData.depth]
  exact this
theorem pick_atB (d : Nat) : (Ph11.addS "_law_bent" 3 (recS Ph11 "_law_bent" 3 5 a_law_bent d)).s "_law_pick" = some (2, runS Ph8 4 a_pick) := rfl
theorem of_atB (d : Nat) : (Ph11.addS "_law_bent" 3 (recS Ph11 "_law_bent" 3 5 a_law_bent d)).s "_law_of" = some (2, runS Ph9 2 a_of) := rfl
theorem bent_atB (d : Nat) : (Ph11.addS "_law_bent" 3 (recS Ph11 "_law_bent" 3 5 a_law_bent d)).s "_law_bent" = some (3, recS Ph11 "_law_bent" 3 5 a_law_bent d) := rfl
theorem int_atB (d : Nat) : (Ph11.addS "_law_bent" 3 (recS Ph11 "_law_bent" 3 5 a_law_bent d)).p "_law_is_int" = some (1, runP Ph10 1 a_law_is_int) := rfl
def a_bent2 : Ss := (.cons (.ifs (.or (.not (.v (.fn (.isi "tuple") (.cons (.bor 1) .nil)))) (.or (.v (.cmp .eq (.bor 1) (.tup .nil))) (.v (.cmp .eq (.calls "_law_pick" (.cons (.var 0) (.cons (.int 9) .nil))) (.int 0))))) (.cons (.ret (.calls "_law_of" (.cons (.var 0) (.cons (.var 2) .nil)))) .nil) .nil) (.cons (.par [3, 4] (.cons (.calls "_law_pick" (.cons (.var 0) (.cons (.fn .len (.cons (.bor 1) .nil)) .nil))) (.cons (.calls "_law_pick" (.cons (.var 0) (.cons (.int 12) .nil))) .nil))) (.cons (.ifs (.v (.cmp .lt (.bor 4) (.int 9))) (.cons (.ret (.bin .add (.bin .add (.slc (.bor 1) .no (.yes (.var 3))) (.tup (.cons (.calls "_law_bent" (.cons (.var 0) (.cons (.idx (.bor 1) (.bor 3)) (.cons (.var 2) .nil)))) .nil))) (.slc (.bor 1) (.yes (.bin .add (.bor 3) (.int 1))) .no))) .nil) .nil) (.cons (.ret (.calls "_law_of" (.cons (.var 0) (.cons (.lst (.cons (.bin .add (.slc (.bor 1) .no (.yes (.var 3))) (.slc (.bor 1) (.yes (.bin .add (.bor 3) (.int 1))) .no)) (.cons (.bin .add (.slc (.bor 1) .no (.yes (.bin .add (.bor 3) (.int 1)))) (.slc (.bor 1) (.yes (.var 3)) .no)) (.cons (.fn .list (.cons (.bor 1) .nil)) .nil)))) .nil)))) .nil))))
theorem a_bent_eq : a_law_bent = .cons (.ifs (.and (.v (.call "_law_is_int" (.cons (.var 1) .nil))) (.v (.cmp .gt (.calls "_law_pick" (.cons (.var 0) (.cons (.int 3) .nil))) (.int 0)))) (.cons (.ret (.bin .add (.bor 1) (.calls "_law_of" (.cons (.var 0) (.cons (.lst (.cons (.int 1) (.cons (.bin .sub (.int 0) (.int 1)) .nil))) .nil))))) .nil) .nil) a_bent2 := rfl
theorem bent_spec (odd : List PyData) (hodd : ∀ x ∈ odd, Fine x 3 10) (hne : odd ≠ []) (hol : odd.length < 1000) : ∀ (d : Nat) (v : PyData) (s : Src), v.depth < d → d ≤ 30 → v.bulk < 100000 → Bs v → s.cells.length ≤ 63 →
    Ex (x := recS Ph11 "_law_bent" 3 5 a_law_bent d [.src, .d v, .d (.list odd)] s) fun r => ∃ (x : PyData) (s' : Src), r = (.d x, s') ∧ Fine x (v.depth + 3) (2 * v.bulk + 10) ∧ s'.cells.length ≤ 63
  | 0, v, s, h, _, _, _, _ => absurd h (Nat.not_lt_zero _)
  | d + 1, v, s, hd, hd30, hb, hv, hs => by
    show Ex (x := runS (Ph11.addS "_law_bent" 3 (recS Ph11 "_law_bent" 3 5 a_law_bent d)) 5 a_law_bent [.src, .d v, .d (.list odd)] s) _
    generalize hΨ : Ph11.addS "_law_bent" 3 (recS Ph11 "_law_bent" 3 5 a_law_bent d) = Ψ
    have hp := pick_atB d
    have hof := of_atB d
    have hbt := bent_atB d
    have hi := int_atB d
    rw [hΨ] at hp hof hbt hi
    rw [a_bent_eq]
    rw [q_runS]
    show Ex (x := evSs Ψ _ ⟨[some .src, some (.d v), some (.d (.list odd)), none, none], some s⟩) _
    infer_instance
    rw [q_call hi]
    infer_instance
    rw [ex_eq (isint_spec v hv.ok)]
    infer_instance
    have rest : ∀ s1 : Src, s1.cells.length ≤ 63 → Ex (x := evSs Ψ a_bent2 ⟨[some .src, some (.d v), some (.d (.list odd)), none, none], some s1⟩) (RetS fun r => ∃ (x : PyData) (s' : Src), r = (.d x, s') ∧ Fine x (v.depth + 3) (2 * v.bulk + 10) ∧ s'.cells.length ≤ 63) := by
      intro s1 hs1
      have out : ∀ s2 : Src, s2.cells.length ≤ 63 → Ex (x := runS Ph9 2 a_of [.src, .d (.list odd)] s2) fun r => ∃ (x : PyData) (s' : Src), r = (.d x, s') ∧ Fine x (v.depth + 3) (2 * v.bulk + 10) ∧ s'.cells.length ≤ 63 := fun s2 h2 => by
        refine (of_spec (Φ' := Ph8) rfl s2 (.list odd) rfl hne (by omega) h2).mono fun r ⟨x, hx, s', e, h3⟩ => ⟨x, s', e, (hodd x hx).mono (by omega) (by omega), h3⟩
      unfold a_bent2
      infer_instance
      rw [isi_tup hv.ok]
      infer_instance
      rcases isTup_or v with ⟨xs, rfl⟩ | ht
      · rw [show isTup (.tuple xs) = true from rfl]
        infer_instance
        rw [cmp_eqNilT (shaped_tup hv.nd hv.ok (by omega))]
        infer_instance
        refine ⟨fun _ => ?_, fun he => ?_⟩
        · rw [q_calls hof]
          infer_instance
          refine (out s1 hs1).mono fun r ⟨x, s', e, h3⟩ => ?_
          subst e
          infer_instance
          exact ⟨x, s', rfl, h3⟩
        · have hlen : 0 < xs.length := by cases xs with | nil => simp at he | cons => simp
          have hle : xs.length ≤ (PyData.tuple xs).bulk := by rw [PyData.bulk]; exact bulkAll_len xs
          rw [q_calls hp]
          infer_instance
          refine (pick_nat s1 9 hs1 (by omega) (by omega)).mono fun r ⟨w, s2, e, h4, h5⟩ => ?_
          subst e
          infer_instance
          refine ⟨fun _ => ?_, fun _ => ?_⟩
          · rw [q_calls hof]
            infer_instance
            refine (out s2 h5).mono fun r ⟨x, s', e, h3⟩ => ?_
            subst e
            infer_instance
            exact ⟨x, s', rfl, h3⟩
          · rw [q_calls hp]
            infer_instance
            refine (pick_nat s2 xs.length h5 (by omega) (by omega)).mono fun r ⟨k, s3, e, h6, h7⟩ => ?_
            subst e
            infer_instance
            rw [q_calls hp]
            infer_instance
            refine (pick_nat s3 12 h7 (by omega) (by omega)).mono fun r ⟨way, s4, e, h8, h9⟩ => ?_
            subst e
            have hk : k < xs.length := by omega
            have hm := List.getElem_mem hk
            have hsp := bulk_split xs k hk
            have hbk : (PyData.tuple xs).bulk = PyData.bulkAll xs := by rw [PyData.bulk]
            have hdp : xs[k].depth < (PyData.tuple xs).depth := by
              rw [PyData.depth]
              have := depthAll_mem hm
              omega
            infer_instance
            refine ⟨fun _ => ?_, fun _ => ?_⟩
            · rw [cut_to]
              rw [q_calls hbt]
              infer_instance
              rw [atI_nat (List.getElem?_eq_getElem hk)]
              infer_instance
              refine (bent_spec odd hodd hne hol d xs[k] s4 (by omega) (by omega) (by omega) (hv.mem hm) h9).mono fun r ⟨z, s5, e, hz, h10⟩ => ?_
              subst e
              infer_instance
              have l1 : (xs.take k).length ≤ xs.length := by rw [List.length_take]; omega
              have l2 : (xs.drop (k + 1)).length ≤ xs.length := by rw [List.length_drop]; omega
              rw [show (k : Int) + 1 = ((k + 1 : Nat) : Int) by omega, cut_from]
              refine ⟨by rw [sizeLine_eq]; omega, by rw [sizeLine_eq, List.length_append]; simp only [List.length_cons, List.length_nil]; omega, ?_⟩
              refine ⟨_, s5, rfl, ?_, h10⟩
              have hf := fine_mix (ys := xs.take k ++ [z] ++ xs.drop (k + 1)) hv (D := (PyData.tuple xs).depth + 2) (b := 2 * xs[k].bulk + 10) (hz.mono (by omega) (Nat.le_refl _)) (fun y hy => ?_) (by omega)
              · refine hf.mono (by omega) ?_
                have hzb := hz.blk
                rw [bulkAll_append, bulkAll_append, PyData.bulkAll, PyData.bulkAll]
                omega
              · rcases List.mem_append.1 hy with q | q
                · rcases List.mem_append.1 q with q | q
                  · exact .inl (List.mem_of_mem_take q)
                  · exact .inr (List.mem_singleton.1 q)
                · exact .inl (List.mem_of_mem_drop q)
            · rw [q_calls hof]
              infer_instance
              have l1 : (xs.take k).length ≤ xs.length := by rw [List.length_take]; omega
              have l2 : (xs.drop (k + 1)).length ≤ xs.length := by rw [List.length_drop]; omega
              have l3 : (xs.take (k + 1)).length ≤ xs.length := by rw [List.length_take]; omega
              have l4 : (xs.drop k).length ≤ xs.length := by rw [List.length_drop]; omega
              rw [show (k : Int) + 1 = ((k + 1 : Nat) : Int) by omega]
              simp only [cut_to, cut_from]
              refine ⟨by rw [sizeLine_eq]; omega, by rw [sizeLine_eq]; omega, ?_⟩
              refine (of_spec (Φ' := Ph8) rfl s4 _ rfl (List.cons_ne_nil _ _) (by simp) h9).mono fun r ⟨x, hx, s', e, h3⟩ => ?_
              subst e
              infer_instance
              refine ⟨x, s', rfl, ?_, h3⟩
              have p1 := bulkAll_append (xs.take k) (xs.drop k)
              rw [List.take_append_drop] at p1
              have p2 := bulkAll_append (xs.take (k + 1)) (xs.drop (k + 1))
              rw [List.take_append_drop] at p2
              simp only [List.mem_cons, List.not_mem_nil, or_false] at hx
              rcases hx with rfl | rfl | rfl
              · refine (fine_part hv (ys := xs.take k ++ xs.drop (k + 1)) fun y hy => ?_).mono (by omega) (by rw [bulkAll_append]; omega)
                rcases List.mem_append.1 hy with q | q
                · exact List.mem_of_mem_take q
                · exact List.mem_of_mem_drop q
              · refine (fine_part hv (ys := xs.take (k + 1) ++ xs.drop k) fun y hy => ?_).mono (by omega) (by rw [bulkAll_append]; omega)
                rcases List.mem_append.1 hy with q | q
                · exact List.mem_of_mem_take q
                · exact List.mem_of_mem_drop q
              · have f := hv.fine
                refine ⟨?_, ?_, ?_, .inl ?_⟩
                · have := f.ok; simpa only [okV] using this
                · rw [PyData.depth]; rw [PyData.depth]; omega
                · rw [PyData.bulk, PyData.bulk]; omega
                · have := hv.nd; simpa only [PyData.hasDict] using this
      · rw [ht]
        infer_instance
        rw [q_calls hof]
        infer_instance
        refine (out s1 hs1).mono fun r ⟨x, s', e, h3⟩ => ?_
        subst e
        infer_instance
        exact ⟨x, s', rfl, h3⟩
    refine ⟨fun hz => ?_, fun hz => rest s hs⟩
    obtain ⟨i, rfl⟩ : ∃ i, v = .int i := by cases v <;> simp_all [isZ]
    rw [q_calls hp]
    infer_instance
    refine (pick_nat s 3 hs (by omega) (by omega)).mono fun r ⟨w, s1, e, h4, h5⟩ => ?_
    subst e
    infer_instance
    refine ⟨fun _ => ?_, fun _ => rest s1 h5⟩
    rw [q_calls hof]
    infer_instance
    refine (of_spec (Φ' := Ph8) rfl s1 _ rfl (List.cons_ne_nil _ _) (by simp) h5).mono fun r ⟨x, hx, s', e, h3⟩ => ?_
    subst e
    obtain ⟨j, rfl, hj⟩ : ∃ j : Int, x = .int j ∧ j.natAbs ≤ 1 := by
      simp only [List.mem_cons, List.not_mem_nil, or_false] at hx
      rcases hx with rfl | rfl
      all_goals exact ⟨_, rfl, by decide⟩
    infer_instance
    refine ⟨_, s', rfl, ?_, h3⟩
    have hok := hv.ok
    simp only [okV, decide_eq_true_eq] at hok
    exact (Pl.int (by omega)).fine.mono (by omega) (by omega)
end K85


set_option Elab.async false
set_option linter.all false
set_option maxRecDepth 100000
set_option maxHeartbeats 4000000
set_option pp.maxSteps 600
namespace K85
open PySem PySem.Spec PyProof.Rows L2 Vm

local macro_rules | `(tactic| infer_instance) => `(tactic| simp -dsimp only [q_int, q_bl, q_non, q_str, q_var, q_bor, q_mov, q_bin, q_neg, q_cmp, q_not, q_and, q_or, q_ife, q_tup, q_lst, q_idx, q_slc, q_rev, q_fn, q_mt, q_lcStep, q_lc, q_dnew, q_dof, q_sg, q_sl, q_sp, q_nil, q_cons, q_oeno, q_oeyes, q_ocno, q_ocyes, q_tv, q_tand, q_tor, q_tnot, q_seq, q_rng1, q_rng2, q_zip, q_zips, outK_nx, outK_ret, outK_brk, outK_cnt, q_snil, q_scons, q_set, q_par, q_ifs, q_forStep, q_forr, q_whl, q_ret, q_retn, q_brk, q_cnt, q_pass, q_sw, retP_ret, retS_ret, ex_some, ex_none, ex_iteN, ex_map, ex_bind,
  rdVar, rdBor, rdMov, frz_d, frz_pt, frz_lst, frz_mat, frz_dct, frz_fdct, frz_src, List.getElem?_cons_zero, List.getElem?_cons_succ, St.set, List.set_cons_zero, List.set_cons_succ, Option.map_some, Option.map_none, Option.bind_some, Option.bind_none, isSrc, sget_left, sget_mixed, sget_turn, sput_left, sput_mixed, sput_turn, vw_d, vw_pt, vw_lst, cmp_lt, cmp_gt, cmp_le, cmp_ge, cmp_eqI, cmp_neI, bin_add, bin_sub, tru_b, boolO, intO, put, puts, slot_d, slot_pt, slot_lst, slot_mat, slot_dct, slot_fdct, List.length_cons, List.length_nil, Nat.zero_le, sl_1, sl_2, sl_3, sl_4, sl_5, sl_6, sl_7, sl_8, sl_9, sl_10, sl_11, sl_12, sl_13, sl_14, sl_15, sl_16, sl_17, sl_18, sl_19, sl_20, sl_21, sl_22, sl_23, sl_24, sl_25, sl_26, sl_27, sl_28, sl_29, sl_30, sl_31, sl_32, sl_33, sl_34, sl_35, sl_36, sl_37, sl_38, sl_39, sl_40, Nat.reduceAdd, Nat.reduceLT, Nat.reduceLeDiff, cmp_eqNil, and_true, true_and, and_self, forall_const, true_implies, false_implies, reduceCtorEq, decide_eq_true_eq, decide_eq_false_iff_not, if_true, if_false, Int.reduceNeg, Option.some.injEq, pr_lenL, pr_lenH, pr_lenT, pr_lenD, pr_abs, pr_intI, pr_intB, pr_all, pr_any, pr_sum, pr_max, pr_min, pr_max2, pr_min2, pr_tupL', pr_tupT, pr_listL, pr_listT, pr_sortL, pr_sortD, cmp_isB, cmp_isnB, tru_i, cmp_neNil, add_L, add_T, slc_L, slc_T, rev_L, rev_T, seqP_pt, seqP_lst, seqP_dl, tupO_dat, tupO_frz, tupO_slot, tupO_free, tupO_vw, vwAll, datAll, dat_d, dat_pt, dat_lst, dat_mat, dat_dct0, implies_true, frzAll, vw, vw0, seqOf, mtTy, List.all_cons, List.all_nil, free_d, free_pt, free_lst, free_dct, free_fdct, Bool.and_self, Bool.and_true, Bool.true_and, idx_list, idx_tup, at_c0, at_c1, clr, asg, asgs, List.length_map, Bool.not_eq_true', beq_self_eq_true, Bool.true_eq_false, Bool.not_eq_false', Bool.not_true, Bool.not_false, Bool.false_eq_true])
def vb_0 : Ss := (.cons (.set 24 (.fn .repr (.cons (.bor 23) .nil))) (.cons (.set 25 (.lst (.cons (.call "is_term" (.cons (.var 3) (.cons (.var 23) .nil))) (.cons (.call "is_term_sum" (.cons (.var 3) (.cons (.var 23) .nil))) .nil)))) (.cons (.ifs (.or (.v (.cmp .ne (.fn .repr (.cons (.bor 25) .nil)) (.fn .repr (.cons (.lst (.cons (.call "_law_is_term" (.cons (.var 3) (.cons (.var 23) .nil))) (.cons (.call "_law_is_sum" (.cons (.var 3) (.cons (.var 23) .nil))) .nil))) .nil)))) (.v (.cmp .ne (.fn .repr (.cons (.bor 23) .nil)) (.bor 24)))) (.cons (.ret (.bl false)) .nil) .nil) .nil)))
def lb_16 : Ss := (.cons (.forr (.nm 23) (.seq (.bin .add (.bor 21) (.bor 2))) vb_0) .nil)
def lb_12 : Ss := (.cons (.set 21 (.lst (.cons (.var 10) (.cons (.fn .list (.cons (.bor 10) .nil)) (.cons (.rev (.bor 10)) (.cons (.bin .add (.bor 10) (.slc (.bor 10) .no (.yes (.int 1)))) (.cons (.bin .add (.bor 10) (.tup (.cons (.tup (.cons (.var 4) (.cons (.int 0) .nil))) .nil))) (.cons (.tup (.cons (.tup (.cons (.var 4) (.cons (.int 1) .nil))) .nil)) (.cons (.tup (.cons (.tup (.cons (.slc (.bor 4) (.yes (.int 1)) .no) (.cons (.int 1) .nil))) .nil)) (.cons (.tup (.cons (.var 4) (.cons (.int 1) .nil))) (.cons (.var 4) .nil))))))))))) (.cons (.app 21 (.fn .list (.cons (.bor 4) .nil))) (.cons (.set 21 (.bin .add (.bor 21) (.lst (.cons (.bin .add (.bor 4) (.tup (.cons (.int 0) .nil))) (.cons (.slc (.bor 4) (.yes (.int 1)) .no) (.cons (.fn .tuple (.cons (.lc false (.ife (.v (.cmp .eq (.bor 7) (.int 1))) (.bl true) (.var 7)) (.nm 7) (.seq (.var 4)) .no [7]) .nil)) .nil)))))) (.cons (.set 21 (.bin .add (.bor 21) (.lc false (.calls "_law_bent" (.cons (.var 1) (.cons (.calls "_law_of" (.cons (.var 1) (.cons (.lst (.cons (.var 10) (.cons (.var 4) .nil))) .nil))) (.cons (.var 2) .nil)))) (.nm 22) (.rng1 (.int 16)) .no [22]))) lb_16))))
def lb_11 : Ss := (.cons (.ifs (.or (.v (.cmp .ne (.call "added_term_sums" (.cons (.var 10) (.cons (.var 10) (.cons (.bin .sub (.int 0) (.int 1)) .nil)))) (.tup .nil))) (.or (.v (.cmp .ne (.call "multiplied_term_sums" (.cons (.var 10) (.cons (.tup .nil) .nil))) (.tup .nil))) (.v (.cmp .ne (.fn .repr (.cons (.lst (.cons (.var 10) (.cons (.var 11) .nil))) .nil)) (.bor 13))))) (.cons (.ret (.bl false)) .nil) .nil) lb_12)
def lb_10 : Ss := (.cons (.ifs (.v (.cmp .ne (.fn .repr (.cons (.lst (.cons (.call "multiplied_term_sums" (.cons (.var 10) (.cons (.var 11) .nil))) (.cons (.call "multiplied_term_sums" (.cons (.var 11) (.cons (.var 10) .nil))) .nil))) .nil)) (.fn .repr (.cons (.bin .mul (.lst (.cons (.call "_law_told" (.cons (.var 15) .nil)) .nil)) (.int 2)) .nil)))) (.cons (.ret (.bl false)) .nil) .nil) lb_11)
def lb_9 : Ss := (.cons (.ifs (.v (.cmp .ne (.fn .repr (.cons (.call "added_term_sums" (.cons (.var 10) (.cons (.var 11) (.cons (.var 12) .nil)))) .nil)) (.fn .repr (.cons (.call "_law_told" (.cons (.var 14) .nil)) .nil)))) (.cons (.ret (.bl false)) .nil) .nil) lb_10)
def lb_8 : Ss := (.cons (.forr (.tp (.cons (.nm 16) (.cons (.nm 17) .nil))) (.seq (.var 10)) (.cons (.forr (.tp (.cons (.nm 18) (.cons (.nm 19) .nil))) (.seq (.var 11)) (.cons (.set 20 (.fn .tuple (.cons (.lc false (.bin .add (.bor 7) (.bor 8)) (.tp (.cons (.nm 7) (.cons (.nm 8) .nil))) (.zip (.var 16) (.var 18)) .no [7, 8]) .nil))) (.cons (.sti 15 (.var 20) (.bin .add (.mt .get2 (.bor 15) (.cons (.var 20) (.cons (.int 0) .nil))) (.bin .mul (.bor 17) (.bor 19)))) .nil))) .nil)) lb_9)
def lb_7 : Ss := (.cons (.forr (.tp (.cons (.nm 16) (.cons (.nm 17) .nil))) (.seq (.var 11)) (.cons (.sti 14 (.var 16) (.bin .add (.mt .get2 (.bor 14) (.cons (.var 16) (.cons (.int 0) .nil))) (.bin .mul (.bor 12) (.bor 17)))) .nil)) lb_8)
def lb_6 : Ss := (.cons (.par [13, 14, 15] (.cons (.fn .repr (.cons (.lst (.cons (.var 10) (.cons (.var 11) .nil))) .nil)) (.cons (.dof true (.fn .list (.cons (.bor 10) .nil))) (.cons (.dnew true) .nil)))) lb_7)
def lb_5 : Ss := (.cons (.par [10, 11, 12] (.cons (.calls "_law_sum" (.cons (.var 1) (.cons (.var 3) (.cons (.int 8) .nil)))) (.cons (.calls "_law_sum" (.cons (.var 1) (.cons (.var 3) (.cons (.int 6) .nil)))) (.cons (.calls "_law_of" (.cons (.var 1) (.cons (.lst (.cons (.int 0) (.cons (.int 1) (.cons (.bin .sub (.int 0) (.int 1)) (.cons (.int 5) (.cons (.int 1000) (.cons (.bin .sub (.int 0) (.int 1000)) .nil))))))) .nil))) .nil)))) lb_6)
def lb_4 : Ss := (.cons (.ifs (.or (.v (.cmp .isnot (.call "divides_term" (.cons (.var 5) (.cons (.var 6) .nil))) (.bl true))) (.v (.cmp .ne (.fn .repr (.cons (.call "term_quotient" (.cons (.var 6) (.cons (.var 5) .nil))) .nil)) (.fn .repr (.cons (.bor 4) .nil))))) (.cons (.ret (.bl false)) .nil) .nil) lb_5)
def lb_3 : Ss := (.cons (.ifs (.v (.cmp .ne (.fn .repr (.cons (.lst (.cons (.call "multiplied_terms" (.cons (.var 4) (.cons (.var 5) .nil))) (.cons (.call "divides_term" (.cons (.var 5) (.cons (.var 4) .nil))) .nil))) .nil)) (.fn .repr (.cons (.lst (.cons (.var 6) (.cons (.var 9) .nil))) .nil)))) (.cons (.ret (.bl false)) .nil) .nil) lb_4)
def lb_2 : Ss := (.cons (.set 9 (.cmp .eq (.lc false (.var 7) (.tp (.cons (.nm 7) (.cons (.nm 8) .nil))) (.zip (.var 4) (.var 5)) (.yes (.v (.cmp .gt (.bor 8) (.bor 7)))) [7, 8]) (.lst .nil))) lb_3)
def lb_1 : Ss := (.cons (.set 6 (.fn .tuple (.cons (.lc false (.bin .add (.bor 7) (.bor 8)) (.tp (.cons (.nm 7) (.cons (.nm 8) .nil))) (.zip (.var 4) (.var 5)) .no [7, 8]) .nil))) lb_2)
def lb_0 : Ss := (.cons (.par [4, 5] (.cons (.calls "_law_term" (.cons (.var 1) (.cons (.var 3) (.cons (.calls "_law_pick" (.cons (.var 1) (.cons (.int 25) .nil))) .nil)))) (.cons (.calls "_law_term" (.cons (.var 1) (.cons (.var 3) (.cons (.calls "_law_pick" (.cons (.var 1) (.cons (.int 13) .nil))) .nil)))) .nil))) lb_1)
def lend : Ss := (.cons (.ret (.and (.cmp .is (.call "is_term" (.cons (.int 1) (.cons (.tup (.cons (.int 0) .nil)) .nil))) (.bl true)) (.cmp .is (.call "is_term_sum" (.cons (.int 3) (.cons (.tup .nil) .nil))) (.bl true)))) .nil)
theorem a_law_eq : a_law = .cons (.set 2 (.lst (.cons .non (.cons (.bl true) (.cons (.bl false) (.cons (.str "x") (.cons (.tup .nil) (.cons (.tup (.cons (.int 0) .nil)) (.cons (.lst (.cons (.int 0) .nil)) (.cons (.dnew false) (.cons (.int 0) (.cons (.int 1) (.cons (.bin .sub (.int 0) (.int 1)) (.cons (.tup (.cons (.tup (.cons (.int 0) .nil)) (.cons (.int 1) .nil))) (.cons (.tup (.cons (.tup (.cons (.tup (.cons (.int 0) .nil)) (.cons (.int 1) .nil))) .nil)) (.cons (.tup (.cons (.tup (.cons (.tup (.cons (.int 0) (.cons (.int 0) .nil))) (.cons (.int 0) .nil))) .nil)) (.cons (.bin .pow (.int 10) (.int 30)) .nil))))))))))))))))) (.cons (.forr (.nm 3) (.seq (.tup (.cons (.int 4) (.cons (.int 6) (.cons (.bin .add (.int 1) (.calls "_law_pick" (.cons (.var 1) (.cons (.int 6) .nil)))) .nil))))) lb_0) lend) := rfl

theorem mul_at : Ph.p "multiplied_terms" = some (2, runP Ph1 4 a_multiplied_terms) := rfl
theorem div_at : Ph.p "divides_term" = some (2, runP Ph2 4 a_divides_term) := rfl
theorem quo_at : Ph.p "term_quotient" = some (2, runP Ph3 4 a_term_quotient) := rfl
theorem pick_at : Ph.s "_law_pick" = some (2, runS Ph8 4 a_pick) := rfl
theorem of_at : Ph.s "_law_of" = some (2, runS Ph9 2 a_of) := rfl
theorem term_at : Ph.s "_law_term" = some (3, runS Ph12 6 a_law_term) := rfl
theorem tupO_nums {ks : List Nat} (h : ks ≠ []) : tupO (nums ks) = .d (tm ks) := by
  unfold tupO
  rw [noKey_nums h]
  rfl
theorem pl_tm {ks : List Nat} (h6 : ks.length ≤ 6) (hk : ∀ k ∈ ks, k ≤ 100) : Pl (tm ks) 1 6 := by
  have := Pl.tup (xs := nums ks) (d := 0) (b := 0) (m := 6) (fun x hx => ?_) (by rw [nums_length]; exact h6)
  · exact this
  · obtain ⟨k, hk2, rfl⟩ := List.mem_map.1 hx
    have := hk k hk2
    exact Pl.int (by omega)
theorem pl_pair {t : PyData} {c : Int} {d b : Nat} (h : Pl t d b) (hc : c.natAbs < 10 ^ 38) : Pl (.tuple [t, .int c]) (d + 1) (2 * (b + 1)) :=
  Pl.tup (fun x hx => by
    simp only [List.mem_cons, List.not_mem_nil, or_false] at hx
    rcases hx with rfl | rfl
    · exact h
    · exact (Pl.int hc).mono (Nat.zero_le _) (Nat.zero_le _)) (Nat.le_refl _)
theorem pl_sm {P : Poly} {m : Nat} (h6 : ∀ p ∈ P, p.1.length ≤ 6 ∧ (∀ k ∈ p.1, k ≤ 100) ∧ p.2.natAbs < 10 ^ 38) (hl : P.length ≤ m) : Pl (.tuple (sm P)) 3 (m * 15) := by
  refine Pl.tup (d := 2) (b := 14) (fun x hx => ?_) (by unfold sm; rw [List.length_map]; exact hl)
  obtain ⟨p, hp, rfl⟩ := List.mem_map.1 hx
  obtain ⟨h1, h2, h3⟩ := h6 p hp
  exact pl_pair (pl_tm h1 h2) h3
theorem pl_list {xs : List PyData} {d b : Nat} (m : Nat) (h : ∀ x ∈ xs, Pl x d b) (hl : xs.length ≤ m) : Fine (.list xs) (d + 1) (m * (b + 1)) := (Pl.list h hl).fine
theorem strOk_shown {x : PyData} (h : okV (10 ^ 38) x = true) : True := trivial
theorem ne_sameR {s : Str} : cmpSem .ne (.d (.str s)) (.d (.str s)) = some false ∨ cmpSem .ne (.d (.str s)) (.d (.str s)) = none := by
  show (eqD (.str s) (.str s)).map (!·) = _ ∨ (eqD (.str s) (.str s)).map (!·) = _
  unfold eqD
  split
  · rw [show PyData.eqv (.str s) (.str s) = (s == s) by rw [PyData.eqv]]
    simp
  · exact .inr rfl
theorem zipfst (one other : List Nat) (Ψ : Fs) : True := trivial
theorem zipD_divs : ∀ a b : List Nat, zipD (nums a) (nums b) = (a.zip b).map fun p : Nat × Nat => PyData.tuple [.int (p.1 : Int), .int (p.2 : Int)] := zipD_nums
theorem divs_zip : ∀ a b : List Nat, ((a.zip b).filter fun p : Nat × Nat => decide (p.1 < p.2)).isEmpty = divs b a
  | [], [] => rfl
  | [], _ :: _ => rfl
  | _ :: _, [] => rfl
  | x :: xs, y :: ys => by
    have ih := divs_zip xs ys
    unfold divs at ih ⊢
    rw [List.zip_cons_cons, List.zip_cons_cons, List.filter_cons, List.filter_cons]
    by_cases h : x < y
    · simp [h]
    · simp [h]
      simpa using ih
end K85


set_option Elab.async false
set_option linter.all false
set_option maxRecDepth 100000
set_option maxHeartbeats 4000000
set_option pp.maxSteps 600
namespace K85
open PySem PySem.Spec PyProof.Rows L2 Vm

local macro_rules | `(tactic| infer_instance) => `(tactic| simp -dsimp only [q_int, q_bl, q_non, q_str, q_var, q_bor, q_mov, q_bin, q_neg, q_cmp, q_not, q_and, q_or, q_ife, q_tup, q_lst, q_idx, q_slc, q_rev, q_fn, q_mt, q_lcStep, q_lc, q_dnew, q_dof, q_sg, q_sl, q_sp, q_nil, q_cons, q_oeno, q_oeyes, q_ocno, q_ocyes, q_tv, q_tand, q_tor, q_tnot, q_seq, q_rng1, q_rng2, q_zip, q_zips, outK_nx, outK_ret, outK_brk, outK_cnt, q_snil, q_scons, q_set, q_par, q_ifs, q_forStep, q_forr, q_whl, q_ret, q_retn, q_brk, q_cnt, q_pass, q_sw, retP_ret, retS_ret, ex_some, ex_none, ex_iteN, ex_map, ex_bind,
  rdVar, rdBor, rdMov, frz_d, frz_pt, frz_lst, frz_mat, frz_dct, frz_fdct, frz_src, List.getElem?_cons_zero, List.getElem?_cons_succ, St.set, List.set_cons_zero, List.set_cons_succ, Option.map_some, Option.map_none, Option.bind_some, Option.bind_none, isSrc, sget_left, sget_mixed, sget_turn, sput_left, sput_mixed, sput_turn, vw_d, vw_pt, vw_lst, cmp_lt, cmp_gt, cmp_le, cmp_ge, cmp_eqI, cmp_neI, bin_add, bin_sub, tru_b, boolO, intO, put, puts, slot_d, slot_pt, slot_lst, slot_mat, slot_dct, slot_fdct, List.length_cons, List.length_nil, Nat.zero_le, sl_1, sl_2, sl_3, sl_4, sl_5, sl_6, sl_7, sl_8, sl_9, sl_10, sl_11, sl_12, sl_13, sl_14, sl_15, sl_16, sl_17, sl_18, sl_19, sl_20, sl_21, sl_22, sl_23, sl_24, sl_25, sl_26, sl_27, sl_28, sl_29, sl_30, sl_31, sl_32, sl_33, sl_34, sl_35, sl_36, sl_37, sl_38, sl_39, sl_40, Nat.reduceAdd, Nat.reduceLT, Nat.reduceLeDiff, cmp_eqNil, and_true, true_and, and_self, forall_const, true_implies, false_implies, reduceCtorEq, decide_eq_true_eq, decide_eq_false_iff_not, if_true, if_false, Int.reduceNeg, Option.some.injEq, pr_lenL, pr_lenH, pr_lenT, pr_lenD, pr_abs, pr_intI, pr_intB, pr_all, pr_any, pr_sum, pr_max, pr_min, pr_max2, pr_min2, pr_tupL', pr_tupT, pr_listL, pr_listT, pr_sortL, pr_sortD, cmp_isB, cmp_isnB, tru_i, cmp_neNil, add_L, add_T, slc_L, slc_T, rev_L, rev_T, seqP_pt, seqP_lst, seqP_dl, tupO_dat, tupO_frz, tupO_slot, tupO_free, tupO_vw, vwAll, datAll, dat_d, dat_pt, dat_lst, dat_mat, dat_dct0, implies_true, frzAll, vw, vw0, seqOf, mtTy, List.all_cons, List.all_nil, free_d, free_pt, free_lst, free_dct, free_fdct, Bool.and_self, Bool.and_true, Bool.true_and, idx_list, idx_tup, at_c0, at_c1, clr, asg, asgs, List.length_map, Bool.not_eq_true', beq_self_eq_true, Bool.true_eq_false, Bool.not_eq_false', Bool.not_true, Bool.not_false, Bool.false_eq_true])

theorem zip2_tm (a b : List Nat) : zip2 [tm a, tm b] = some (nums a, nums b) := rfl
theorem zip2t_tm (a b : List Nat) : zip2t [tm a, tm b] = some (nums a, nums b) := rfl
theorem divs_add : ∀ a b : List Nat, divs b (addT a b) = true
  | [], [] => rfl
  | [], _ :: _ => rfl
  | _ :: _, [] => rfl
  | x :: xs, y :: ys => by
    have ih := divs_add xs ys
    unfold divs at ih ⊢
    show (List.filter _ ((y, x + y) :: ys.zip (addT xs ys))).isEmpty = true
    rw [List.filter_cons, if_neg (by simp)]
    exact ih
theorem chunkA {n : Nat} (hn : 1 ≤ n) (hn6 : n ≤ 6) (o2 : Option O) (Q : Out → Prop) (c4 c5 c6 c7 c8 c9 c10 c11 c12 c13 c14 c15 c16 c17 c18 c19 c20 c21 c22 c23 c24 c25 : Option O) (s : Src) (hs : s.cells.length ≤ 63)
    (k : ∀ (one other : List Nat) (s : Src), one.length = n → other.length = n → (∀ k ∈ one, k ≤ 24) → (∀ k ∈ other, k ≤ 24) → s.cells.length ≤ 63 → Ex (x := evSs Ph lb_5 ⟨[none, some .src, o2, some (.d (.int (n : Int))), some (.d (tm one)), some (.d (tm other)), some (.d (tm (addT one other))), none, none, some (.d (.bool (divs other one))), c10, c11, c12, c13, c14, c15, c16, c17, c18, c19, c20, c21, c22, c23, c24, c25], some s⟩) Q) : Ex (x := evSs Ph lb_0 ⟨[none, some .src, o2, some (.d (.int (n : Int))), c4, c5, c6, c7, c8, c9, c10, c11, c12, c13, c14, c15, c16, c17, c18, c19, c20, c21, c22, c23, c24, c25], some s⟩) Q := by
  unfold lb_0
  infer_instance
  rw [q_calls term_at]
  infer_instance
  rw [q_calls pick_at]
  infer_instance
  refine (pick_nat s 25 hs (by omega) (by omega)).mono fun r ⟨v, s1, e, h1, h2⟩ => ?_
  subst e
  infer_instance
  refine (term_spec s1 n v h2 hn hn6 (by omega)).mono fun r ⟨one, s2, e, g1, g2, g3⟩ => ?_
  subst e
  infer_instance
  rw [q_calls term_at]
  infer_instance
  rw [q_calls pick_at]
  infer_instance
  refine (pick_nat s2 13 g3 (by omega) (by omega)).mono fun r ⟨v2, s3, e, h3, h4⟩ => ?_
  subst e
  infer_instance
  refine (term_spec s3 n v2 h4 hn hn6 (by omega)).mono fun r ⟨other, s4, e, g4, g5, g6⟩ => ?_
  subst e
  infer_instance
  have k1 : ∀ k ∈ one, k ≤ 24 := fun k hk => by have := g2 k hk; omega
  have k2 : ∀ k ∈ other, k ≤ 24 := fun k hk => by have := g5 k hk; omega
  have h0 := k one other s4 g1 g4 k1 k2 g6
  have he : one.length = other.length := by omega
  have hne : one ≠ [] := len_ne hn g1
  have hadd : (addT one other).length = n := addT_len g1 g4
  have hane : addT one other ≠ [] := len_ne hn hadd
  unfold lb_1
  infer_instance
  rw [zip2_tm]
  infer_instance
  rw [zipD_nums]
  refine Ex.of (lc_pureM _ (fun p : Nat × Nat => some (.d (.int ((p.1 + p.2 : Nat) : Int)))) (one.zip other) fun p hp => ?_) ?_
  · infer_instance
    rw [Int.natCast_add]
  · rw [zipfm]
    infer_instance
    rw [datAll_d (fun k : Nat => PyData.int (k : Int))]
    infer_instance
    refine ⟨by rw [List.length_zipWith, sizeLine_eq]; omega, ?_⟩
    rw [show tupO ((List.zipWith (fun x1 x2 => x1 + x2) one other).map fun k : Nat => PyData.int (k : Int)) = .d (tm (addT one other)) from tupO_nums hane]
    unfold lb_2
    infer_instance
    rw [zip2_tm]
    infer_instance
    rw [zipD_nums]
    refine Ex.of (lc_pureM _ (fun p : Nat × Nat => if p.1 < p.2 then some (.d (.int (p.1 : Int))) else none) (one.zip other) fun p hp => ?_) ?_
    · infer_instance
      refine ⟨fun q => by rw [if_pos (Int.ofNat_lt.1 q)], fun q => by rw [if_neg fun z => q (Int.ofNat_lt.2 z)]⟩
    · rw [filterMap_if (fun p : Nat × Nat => p.1 < p.2)]
      infer_instance
      rw [datAll_d (fun p : Nat × Nat => PyData.int (p.1 : Int))]
      infer_instance
      refine ⟨?_, ?_⟩
      · refine Nat.le_trans (List.length_filter_le _ _) ?_
        rw [List.length_zip, sizeLine_eq]; omega
      · rw [List.isEmpty_map, divs_zip]
        unfold lb_3
        infer_instance
        rw [q_call mul_at]
        infer_instance
        rw [ex_eq (mul_spec one other he hne (by omega))]
        infer_instance
        rw [q_call div_at]
        infer_instance
        rw [ex_eq (div_spec other one he.symm (by omega))]
        infer_instance
        have hf : Fine (.list [tm (addT one other), .bool (divs other one)]) 2 14 := pl_list 2 (d := 1) (b := 6) (fun x hx => by
          simp only [List.mem_cons, List.not_mem_nil, or_false] at hx
          rcases hx with rfl | rfl
          · refine pl_tm (by omega) fun k hk => ?_
            obtain ⟨i, hi, rfl⟩ := List.getElem_of_mem hk
            simp only [addT, List.length_zipWith] at hi
            simp only [addT, List.getElem_zipWith]
            have a1 := k1 _ (List.getElem_mem (show i < one.length by omega))
            have a2 := k2 _ (List.getElem_mem (show i < other.length by omega))
            omega
          · exact (Pl.bool _).mono (by omega) (by omega)) (by simp)
        rw [hf.repr (by omega) (by omega)]
        infer_instance
        rw [hf.repr (by omega) (by omega)]
        infer_instance
        rw [hf.ne]
        infer_instance
        unfold lb_4
        infer_instance
        rw [q_call div_at]
        infer_instance
        rw [ex_eq (div_spec other (addT one other) (by omega) (by omega))]
        infer_instance
        rw [divs_add]
        infer_instance
        rw [q_call quo_at]
        infer_instance
        rw [ex_eq (quo_spec one other he hne (by omega))]
        infer_instance
        have hf2 : Fine (tm one) 1 6 := (pl_tm (by omega) fun k hk => by have := k1 k hk; omega).fine
        rw [hf2.repr (by omega) (by omega)]
        infer_instance
        rw [hf2.repr (by omega) (by omega)]
        infer_instance
        rw [hf2.ne]
        infer_instance
        exact h0
end K85


set_option Elab.async false
set_option linter.all false
set_option maxRecDepth 100000
set_option maxHeartbeats 4000000
set_option pp.maxSteps 600
namespace K85
open PySem PySem.Spec PyProof.Rows L2 Vm

local macro_rules | `(tactic| infer_instance) => `(tactic| simp -dsimp only [q_int, q_bl, q_non, q_str, q_var, q_bor, q_mov, q_bin, q_neg, q_cmp, q_not, q_and, q_or, q_ife, q_tup, q_lst, q_idx, q_slc, q_rev, q_fn, q_mt, q_lcStep, q_lc, q_dnew, q_dof, q_sg, q_sl, q_sp, q_nil, q_cons, q_oeno, q_oeyes, q_ocno, q_ocyes, q_tv, q_tand, q_tor, q_tnot, q_seq, q_rng1, q_rng2, q_zip, q_zips, outK_nx, outK_ret, outK_brk, outK_cnt, q_snil, q_scons, q_set, q_par, q_ifs, q_forStep, q_forr, q_whl, q_ret, q_retn, q_brk, q_cnt, q_pass, q_sw, retP_ret, retS_ret, ex_some, ex_none, ex_iteN, ex_map, ex_bind,
  rdVar, rdBor, rdMov, frz_d, frz_pt, frz_lst, frz_mat, frz_dct, frz_fdct, frz_src, List.getElem?_cons_zero, List.getElem?_cons_succ, St.set, List.set_cons_zero, List.set_cons_succ, Option.map_some, Option.map_none, Option.bind_some, Option.bind_none, isSrc, sget_left, sget_mixed, sget_turn, sput_left, sput_mixed, sput_turn, vw_d, vw_pt, vw_lst, cmp_lt, cmp_gt, cmp_le, cmp_ge, cmp_eqI, cmp_neI, bin_add, bin_sub, tru_b, boolO, intO, put, puts, slot_d, slot_pt, slot_lst, slot_mat, slot_dct, slot_fdct, List.length_cons, List.length_nil, Nat.zero_le, sl_1, sl_2, sl_3, sl_4, sl_5, sl_6, sl_7, sl_8, sl_9, sl_10, sl_11, sl_12, sl_13, sl_14, sl_15, sl_16, sl_17, sl_18, sl_19, sl_20, sl_21, sl_22, sl_23, sl_24, sl_25, sl_26, sl_27, sl_28, sl_29, sl_30, sl_31, sl_32, sl_33, sl_34, sl_35, sl_36, sl_37, sl_38, sl_39, sl_40, Nat.reduceAdd, Nat.reduceLT, Nat.reduceLeDiff, cmp_eqNil, and_true, true_and, and_self, forall_const, true_implies, false_implies, reduceCtorEq, decide_eq_true_eq, decide_eq_false_iff_not, if_true, if_false, Int.reduceNeg, Option.some.injEq, pr_lenL, pr_lenH, pr_lenT, pr_lenD, pr_abs, pr_intI, pr_intB, pr_all, pr_any, pr_sum, pr_max, pr_min, pr_max2, pr_min2, pr_tupL', pr_tupT, pr_listL, pr_listT, pr_sortL, pr_sortD, cmp_isB, cmp_isnB, tru_i, cmp_neNil, add_L, add_T, slc_L, slc_T, rev_L, rev_T, seqP_pt, seqP_lst, seqP_dl, tupO_dat, tupO_frz, tupO_slot, tupO_free, tupO_vw, vwAll, datAll, dat_d, dat_pt, dat_lst, dat_mat, dat_dct0, implies_true, frzAll, vw, vw0, seqOf, mtTy, List.all_cons, List.all_nil, free_d, free_pt, free_lst, free_dct, free_fdct, Bool.and_self, Bool.and_true, Bool.true_and, idx_list, idx_tup, at_c0, at_c1, clr, asg, asgs, List.length_map, Bool.not_eq_true', beq_self_eq_true, Bool.true_eq_false, Bool.not_eq_false', Bool.not_true, Bool.not_false, Bool.false_eq_true])

theorem sum_at : Ph.s "_law_sum" = some (3, runS Ph16 5 a_law_sum) := rfl
theorem told_at : Ph.p "_law_told" = some (1, runP Ph15 2 a_told) := rfl
theorem add_at : Ph.p "added_term_sums" = some (3, runP Ph6 6 a_added_term_sums) := rfl
theorem muls_at : Ph.p "multiplied_term_sums" = some (2, runP Ph7 8 a_multiplied_term_sums) := rfl
theorem val_le {D : Poly} {M : Nat} (h : ∀ p ∈ D, p.2.natAbs ≤ M) (k : List Nat) : (val D k).natAbs ≤ M := by
  unfold val pget
  cases hf : D.find? fun p => decide (p.1 = k) with
  | none => exact Nat.zero_le _
  | some p => exact h p (List.mem_of_find?_eq_some hf)
theorem acc_bound {m : Nat} : ∀ (L D : Poly) (M : Nat), (∀ p ∈ D, p.2.natAbs ≤ M) → (∀ p ∈ L, p.2.natAbs ≤ m) → ∀ p ∈ acc L D, p.2.natAbs ≤ M + L.length * m
  | [], D, M, h, _ => fun p hp => by have := h p hp; omega
  | q :: L, D, M, h, k => by
    have h1 : ∀ p ∈ acc1 D q, p.2.natAbs ≤ M + m := by
      unfold acc1
      refine pput_all (R := fun p : List Nat × Int => p.2.natAbs ≤ M + m) (fun p hp => by have := h p hp; omega) ?_
      have a1 := val_le h q.1
      have a2 := k q List.mem_cons_self
      show (val D q.1 + q.2).natAbs ≤ M + m
      omega
    intro p hp
    have := acc_bound L (acc1 D q) (M + m) h1 (fun p hp => k p (List.mem_cons_of_mem _ hp)) p hp
    rw [List.length_cons, Nat.add_mul]
    omega
theorem told_len (D : Poly) : (toldP D).length ≤ D.length := by
  refine Nat.le_trans (List.length_filterMap_le _ _) ?_
  rw [show (srt D).length = (keys D).length from (List.mergeSort_perm _ _).length_eq]
  unfold keys
  rw [List.length_map]
  exact Nat.le_refl _
theorem told_in {D : Poly} {p : List Nat × Int} (hp : p ∈ toldP D) : ∃ q ∈ D, q.1 = p.1 ∧ q.2 = p.2 := by
  obtain ⟨h1, h2, h3⟩ := toldP_mem hp
  unfold pget at h2
  cases hf : D.find? fun q => decide (q.1 = p.1) with
  | none => rw [hf] at h2; cases h2
  | some q =>
    rw [hf] at h2
    exact ⟨q, List.mem_of_find?_eq_some hf, by simpa using List.find?_some hf, Option.some.inj h2⟩
theorem pl_told {D : Poly} {m : Nat} (h6 : ∀ p ∈ D, p.1.length ≤ 6 ∧ (∀ k ∈ p.1, k ≤ 100) ∧ p.2.natAbs < 10 ^ 38) (hl : D.length ≤ m) : Pl (.tuple (sm (toldP D))) 3 (m * 15) := by
  refine pl_sm (fun p hp => ?_) (Nat.le_trans (told_len D) hl)
  obtain ⟨q, hq, e1, e2⟩ := told_in hp
  rw [← e1, ← e2]
  exact h6 q hq
/-- what the numbers of a term, a sum are -/
def Rk (n : Nat) (p : List Nat × Int) : Prop := p.1.length = n ∧ ∀ k ∈ p.1, k ≤ 100
theorem Rk.add {n : Nat} {p q : List Nat × Int} (hp : p.1.length = n ∧ ∀ k ∈ p.1, k ≤ 8) (hq : q.1.length = n ∧ ∀ k ∈ q.1, k ≤ 8) (c : Int) : Rk n (addT p.1 q.1, c) := by
  refine ⟨addT_len hp.1 hq.1, fun k hk => ?_⟩
  obtain ⟨i, hi, rfl⟩ := List.getElem_of_mem hk
  simp only [addT, List.length_zipWith] at hi
  simp only [addT, List.getElem_zipWith]
  have a1 := hp.2 _ (List.getElem_mem (show i < p.1.length by omega))
  have a2 := hq.2 _ (List.getElem_mem (show i < q.1.length by omega))
  omega
theorem sum_nodup {n : Nat} {P : Poly} (h : SumOk n P) : (keys P).Nodup := h.srt.imp fun {a b} hab e => by
  subst e
  exact absurd hab (List.lt_irrefl _)
end K85


set_option Elab.async false
set_option linter.all false
set_option maxRecDepth 100000
set_option maxHeartbeats 4000000
set_option pp.maxSteps 600
namespace K85
open PySem PySem.Spec PyProof.Rows L2 Vm

local macro_rules | `(tactic| infer_instance) => `(tactic| simp -dsimp only [q_int, q_bl, q_non, q_str, q_var, q_bor, q_mov, q_bin, q_neg, q_cmp, q_not, q_and, q_or, q_ife, q_tup, q_lst, q_idx, q_slc, q_rev, q_fn, q_mt, q_lcStep, q_lc, q_dnew, q_dof, q_sg, q_sl, q_sp, q_nil, q_cons, q_oeno, q_oeyes, q_ocno, q_ocyes, q_tv, q_tand, q_tor, q_tnot, q_seq, q_rng1, q_rng2, q_zip, q_zips, outK_nx, outK_ret, outK_brk, outK_cnt, q_snil, q_scons, q_set, q_par, q_ifs, q_forStep, q_forr, q_whl, q_ret, q_retn, q_brk, q_cnt, q_pass, q_sw, retP_ret, retS_ret, ex_some, ex_none, ex_iteN, ex_map, ex_bind,
  rdVar, rdBor, rdMov, frz_d, frz_pt, frz_lst, frz_mat, frz_dct, frz_fdct, frz_src, List.getElem?_cons_zero, List.getElem?_cons_succ, St.set, List.set_cons_zero, List.set_cons_succ, Option.map_some, Option.map_none, Option.bind_some, Option.bind_none, isSrc, sget_left, sget_mixed, sget_turn, sput_left, sput_mixed, sput_turn, vw_d, vw_pt, vw_lst, cmp_lt, cmp_gt, cmp_le, cmp_ge, cmp_eqI, cmp_neI, bin_add, bin_sub, tru_b, boolO, intO, put, puts, slot_d, slot_pt, slot_lst, slot_mat, slot_dct, slot_fdct, List.length_cons, List.length_nil, Nat.zero_le, sl_1, sl_2, sl_3, sl_4, sl_5, sl_6, sl_7, sl_8, sl_9, sl_10, sl_11, sl_12, sl_13, sl_14, sl_15, sl_16, sl_17, sl_18, sl_19, sl_20, sl_21, sl_22, sl_23, sl_24, sl_25, sl_26, sl_27, sl_28, sl_29, sl_30, sl_31, sl_32, sl_33, sl_34, sl_35, sl_36, sl_37, sl_38, sl_39, sl_40, Nat.reduceAdd, Nat.reduceLT, Nat.reduceLeDiff, cmp_eqNil, and_true, true_and, and_self, forall_const, true_implies, false_implies, reduceCtorEq, decide_eq_true_eq, decide_eq_false_iff_not, if_true, if_false, Int.reduceNeg, Option.some.injEq, pr_lenL, pr_lenH, pr_lenT, pr_lenD, pr_abs, pr_intI, pr_intB, pr_all, pr_any, pr_sum, pr_max, pr_min, pr_max2, pr_min2, pr_tupL', pr_tupT, pr_listL, pr_listT, pr_sortL, pr_sortD, cmp_isB, cmp_isnB, tru_i, cmp_neNil, add_L, add_T, slc_L, slc_T, rev_L, rev_T, seqP_pt, seqP_lst, seqP_dl, tupO_dat, tupO_frz, tupO_slot, tupO_free, tupO_vw, vwAll, datAll, dat_d, dat_pt, dat_lst, dat_mat, dat_dct0, implies_true, frzAll, vw, vw0, seqOf, mtTy, List.all_cons, List.all_nil, free_d, free_pt, free_lst, free_dct, free_fdct, Bool.and_self, Bool.and_true, Bool.true_and, idx_list, idx_tup, at_c0, at_c1, clr, asg, asgs, List.length_map, Bool.not_eq_true', beq_self_eq_true, Bool.true_eq_false, Bool.not_eq_false', Bool.not_true, Bool.not_false, Bool.false_eq_true])

theorem mul_l2 (x : PyData) : binSem .mul (.d (.list [x])) (.d (.int 2)) = some (.lst [x, x]) := rfl
theorem chunkB {n : Nat} (hn : 1 ≤ n) (hn6 : n ≤ 6) (o2 : Option O) (Q : Out → Prop) (one other : List Nat) (c10 c11 c12 c13 c14 c15 c16 c17 c18 c19 c20 c21 c22 c23 c24 c25 : Option O) (s : Src) (hs : s.cells.length ≤ 63)
    (k : ∀ (a b : Poly) (s : Src) (d12 d13 d14 d15 d16 d17 d18 d19 d20 : Option O), SumOk n a → SumOk n b → s.cells.length ≤ 63 → Ex (x := evSs Ph lb_12 ⟨[none, some .src, o2, some (.d (.int (n : Int))), some (.d (tm one)), some (.d (tm other)), some (.d (tm (addT one other))), none, none, some (.d (.bool (divs other one))), some (.pt (sm a)), some (.pt (sm b)), d12, d13, d14, d15, d16, d17, d18, d19, d20, c21, c22, c23, c24, c25], some s⟩) Q) : Ex (x := evSs Ph lb_5 ⟨[none, some .src, o2, some (.d (.int (n : Int))), some (.d (tm one)), some (.d (tm other)), some (.d (tm (addT one other))), none, none, some (.d (.bool (divs other one))), c10, c11, c12, c13, c14, c15, c16, c17, c18, c19, c20, c21, c22, c23, c24, c25], some s⟩) Q := by
  unfold lb_5
  infer_instance
  rw [q_calls sum_at]
  infer_instance
  refine (sum_spec s n 8 hs hn hn6 (by omega)).mono fun r ⟨a, s1, e, ha, h1⟩ => ?_
  subst e
  infer_instance
  rw [q_calls sum_at]
  infer_instance
  refine (sum_spec s1 n 6 h1 hn hn6 (by omega)).mono fun r ⟨b, s2, e, hb, h2⟩ => ?_
  subst e
  infer_instance
  rw [q_calls of_at]
  infer_instance
  refine (of_spec (Φ' := Ph8) rfl s2 _ rfl (List.cons_ne_nil _ _) (by simp) h2).mono fun r ⟨y, hy, s3, e, h3⟩ => ?_
  subst e
  obtain ⟨t, rfl, hc⟩ : ∃ t : Int, y = .int t ∧ t.natAbs ≤ 1000 := by
    simp only [List.mem_cons, List.not_mem_nil, or_false] at hy
    rcases hy with rfl | rfl | rfl | rfl | rfl | rfl
    all_goals exact ⟨_, rfl, by decide⟩
  infer_instance
  have hk : ∀ d12 d13 d14 d15 d16 d17 d18 d19 d20 : Option O, Ex (x := evSs Ph lb_12 ⟨[none, some .src, o2, some (.d (.int (n : Int))), some (.d (tm one)), some (.d (tm other)), some (.d (tm (addT one other))), none, none, some (.d (.bool (divs other one))), some (.pt (sm a)), some (.pt (sm b)), d12, d13, d14, d15, d16, d17, d18, d19, d20, c21, c22, c23, c24, c25], some s3⟩) Q := fun _ _ _ _ _ _ _ _ _ => k a b s3 _ _ _ _ _ _ _ _ _ ha hb h3
  clear k
  have fa := ha.few
  have fb := hb.few
  have la : ∀ p ∈ a, p.1.length = n ∧ p.2.natAbs < 2 ^ 64 := fun p hp => ⟨ha.len p hp, by have := (ha.c p hp).2; omega⟩
  have lb : ∀ p ∈ b, p.1.length = n ∧ p.2.natAbs < 2 ^ 64 := fun p hp => ⟨hb.len p hp, by have := (hb.c p hp).2; omega⟩
  have pa : Pl (.tuple (sm a)) 3 (8 * 15) := pl_sm (fun p hp => ⟨by rw [ha.len p hp]; exact hn6, fun k hk => by have := ha.num p hp k hk; omega, by have := (ha.c p hp).2; omega⟩) fa
  have pb : Pl (.tuple (sm b)) 3 (8 * 15) := pl_sm (fun p hp => ⟨by rw [hb.len p hp]; exact hn6, fun k hk => by have := hb.num p hp k hk; omega, by have := (hb.c p hp).2; omega⟩) fb
  have hf : Fine (.list [.tuple (sm a), .tuple (sm b)]) 4 (2 * (8 * 15 + 1)) := pl_list 2 (fun x hx => by
    simp only [List.mem_cons, List.not_mem_nil, or_false] at hx
    rcases hx with rfl | rfl
    · exact pa
    · exact pb) (by simp)
  unfold lb_6
  infer_instance
  rw [hf.repr (by omega) (by omega)]
  infer_instance
  rw [pairsOf_sm]
  infer_instance
  rw [show dictOf true (a.map fun p : List Nat × Int => (tm p.1, PyData.int p.2)) [] = some (kv (mkD a [])) from dictOf_sm a [] fun p hp => len_ne hn (ha.len p hp)]
  infer_instance
  generalize hheld : (PyData.list [.tuple (sm a), .tuple (sm b)]).shown = held
  unfold lb_7
  infer_instance
  have len1 : ∀ d : Poly, d.length ≤ b.length → (acc (tms t d) (mkD a [])).length < sizeLine := fun d hd => by
    have e1 := acc_len (tms t d) (mkD a [])
    have e2 := mkD_len a []
    have e3 : (tms t d).length = d.length := List.length_map _
    rw [sizeLine_eq]
    simp only [List.length_nil] at e2
    omega
  refine for_pre (fun p : List Nat × Int => PyData.tuple [tm p.1, .int p.2]) (fun d st => ∃ d16 d17 : Option O, st = ⟨[none, some .src, o2, some (.d (.int (n : Int))), some (.d (tm one)), some (.d (tm other)), some (.d (tm (addT one other))), none, none, some (.d (.bool (divs other one))), some (.pt (sm a)), some (.pt (sm b)), some (.d (.int t)), some (.d (.str held)), some (.dct true (kv (acc (tms t d) (mkD a [])))), some (.dct true []), d16, d17, c18, c19, c20, c21, c22, c23, c24, c25], some s3⟩) b _ ⟨_, _, rfl⟩ ?_ ?_
  · rintro d p r st e ⟨d16, d17, rfl⟩
    have hkn : p.1 ≠ [] := len_ne hn (hb.len p (by rw [e]; exact List.mem_append_right _ List.mem_cons_self))
    infer_instance
    rw [q_sti _ _ _ _ ⟨_, rfl⟩]
    infer_instance
    rw [get2_kv hkn]
    infer_instance
    rw [bin_mulS (.inl (by omega))]
    infer_instance
    rw [stAt_kv rfl hkn (len1 d (by rw [e, List.length_append, List.length_cons]; omega))]
    infer_instance
    rw [show acc (tms t (d ++ [p])) (mkD a []) = pput (acc (tms t d) (mkD a [])) p.1 (val (acc (tms t d) (mkD a [])) p.1 + t * p.2) by rw [tms_append, acc_append]; rfl]
    exact ⟨_, _, rfl⟩
  rintro st ⟨d16, d17, rfl⟩
  infer_instance
  generalize hD : acc (tms t b) (mkD a []) = D
  unfold lb_8
  infer_instance
  have lenD : ∀ d d2 : Poly, d.length ≤ 100 → d2.length ≤ 100 → (acc (prods d b) []).length + d2.length < sizeLine := fun d d2 hd hd2 => by
    have e1 := acc_len (prods d b) []
    rw [prods_len] at e1
    have e2 : d.length * b.length ≤ 100 * 100 := Nat.mul_le_mul hd (by omega)
    rw [sizeLine_eq]
    simp only [List.length_nil] at e1
    omega
  refine for_pre (fun p : List Nat × Int => PyData.tuple [tm p.1, .int p.2]) (fun d st => ∃ d16 d17 d18 d19 d20 : Option O, st = ⟨[none, some .src, o2, some (.d (.int (n : Int))), some (.d (tm one)), some (.d (tm other)), some (.d (tm (addT one other))), none, none, some (.d (.bool (divs other one))), some (.pt (sm a)), some (.pt (sm b)), some (.d (.int t)), some (.d (.str held)), some (.dct true (kv D)), some (.dct true (kv (acc (prods d b) []))), d16, d17, d18, d19, d20, c21, c22, c23, c24, c25], some s3⟩) a _ ⟨_, _, _, _, _, rfl⟩ ?_ ?_
  · rintro d p r st e ⟨d16, d17, d18, d19, d20, rfl⟩
    have hpa : p ∈ a := by rw [e]; exact List.mem_append_right _ List.mem_cons_self
    have hk2 : p.1.length = n := ha.len p hpa
    have hd : d.length ≤ 100 := by
      have : d.length ≤ a.length := by rw [e, List.length_append, List.length_cons]; omega
      omega
    infer_instance
    refine for_pre (fun p : List Nat × Int => PyData.tuple [tm p.1, .int p.2]) (fun d2 st => ∃ d18 d19 d20 : Option O, st = ⟨[none, some .src, o2, some (.d (.int (n : Int))), some (.d (tm one)), some (.d (tm other)), some (.d (tm (addT one other))), none, none, some (.d (.bool (divs other one))), some (.pt (sm a)), some (.pt (sm b)), some (.d (.int t)), some (.d (.str held)), some (.dct true (kv D)), some (.dct true (kv (acc (d2.map fun q : List Nat × Int => (addT p.1 q.1, p.2 * q.2)) (acc (prods d b) [])))), some (.d (tm p.1)), some (.d (.int p.2)), d18, d19, d20, c21, c22, c23, c24, c25], some s3⟩) b _ ⟨_, _, _, rfl⟩ ?_ ?_
    · rintro d2 q r2 st e2 ⟨d18, d19, d20, rfl⟩
      have hqb : q ∈ b := by rw [e2]; exact List.mem_append_right _ List.mem_cons_self
      have hq : q.1.length = n := hb.len q hqb
      have hd2 : d2.length ≤ 100 := by
        have : d2.length ≤ b.length := by rw [e2, List.length_append, List.length_cons]; omega
        omega
      have hs2 := addT_len hk2 hq
      infer_instance
      rw [zip2_tm]
      infer_instance
      rw [zipD_nums]
      refine Ex.of (lc_pureM _ (fun p : Nat × Nat => some (.d (.int ((p.1 + p.2 : Nat) : Int)))) (p.1.zip q.1) fun p hp => ?_) ?_
      · infer_instance
        rw [Int.natCast_add]
      · rw [zipfm]
        infer_instance
        rw [datAll_d (fun k : Nat => PyData.int (k : Int))]
        infer_instance
        refine ⟨by rw [List.length_zipWith, sizeLine_eq]; omega, ?_⟩
        rw [show tupO ((List.zipWith (fun x1 x2 => x1 + x2) p.1 q.1).map fun k : Nat => PyData.int (k : Int)) = .d (tm (addT p.1 q.1)) from tupO_nums (len_ne hn hs2)]
        rw [q_sti _ _ _ _ ⟨_, rfl⟩]
        infer_instance
        rw [get2_kv (len_ne hn hs2)]
        infer_instance
        rw [bin_mulS (.inl (la p hpa).2)]
        infer_instance
        rw [stAt_kv rfl (len_ne hn hs2) ?_]
        · infer_instance
          rw [List.map_append, acc_append]
          exact ⟨_, _, _, rfl⟩
        · have e1 := acc_len (d2.map fun q : List Nat × Int => (addT p.1 q.1, p.2 * q.2)) (acc (prods d b) [])
          rw [List.length_map] at e1
          exact Nat.lt_of_le_of_lt e1 (lenD d d2 hd hd2)
    · rintro st ⟨d18, d19, d20, rfl⟩
      infer_instance
      rw [show prods (d ++ [p]) b = prods d b ++ b.map fun q : List Nat × Int => (addT p.1 q.1, p.2 * q.2) by unfold prods; rw [List.flatMap_append, List.flatMap_cons, List.flatMap_nil, List.append_nil], acc_append]
      exact ⟨_, _, _, _, _, rfl⟩
  rintro st ⟨d16, d17, d18, d19, d20, rfl⟩
  infer_instance
  generalize hE : acc (prods a b) [] = E
  -- what the sums are made of
  have rD : ∀ p ∈ D, Rk n p := by
    rw [← hD]
    refine acc_all (mkD_all (fun p hp => (List.not_mem_nil hp).elim) fun p hp => ⟨ha.len p hp, fun k hk => by have := ha.num p hp k hk; omega⟩) fun p hp c => ?_
    obtain ⟨q, hq, e⟩ := List.mem_map.1 hp
    rw [← e]
    exact ⟨hb.len q hq, fun k hk => by have := hb.num q hq k hk; omega⟩
  have cD : ∀ p ∈ D, p.2.natAbs < 10 ^ 38 := by
    rw [← hD]
    intro p hp
    have := acc_bound (m := 10 ^ 9) (tms t b) (mkD a []) (10 ^ 6) (mkD_all (fun p hp => (List.not_mem_nil hp).elim) fun p hp => (ha.c p hp).2) (fun p hp => by
      obtain ⟨q, hq, e⟩ := List.mem_map.1 hp
      rw [← e]
      show (t * q.2).natAbs ≤ _
      rw [Int.natAbs_mul]
      have := (hb.c q hq).2
      exact Nat.le_trans (Nat.mul_le_mul hc this) (by decide)) p hp
    have e3 : (tms t b).length = b.length := List.length_map _
    rw [e3] at this
    have : b.length * 10 ^ 9 ≤ 8 * 10 ^ 9 := Nat.mul_le_mul_right _ fb
    omega
  have nD : D.length ≤ 16 := by
    rw [← hD]
    have e1 := acc_len (tms t b) (mkD a [])
    have e2 := mkD_len a []
    have e3 : (tms t b).length = b.length := List.length_map _
    simp only [List.length_nil] at e2
    omega
  have rE : ∀ p ∈ E, Rk n p := by
    rw [← hE]
    refine acc_all (fun p hp => (List.not_mem_nil hp).elim) fun p hp c => ?_
    obtain ⟨q, hq, hp⟩ := List.mem_flatMap.1 hp
    obtain ⟨q2, hq2, rfl⟩ := List.mem_map.1 hp
    exact Rk.add ⟨ha.len q hq, ha.num q hq⟩ ⟨hb.len q2 hq2, hb.num q2 hq2⟩ c
  have cE : ∀ p ∈ E, p.2.natAbs < 10 ^ 38 := by
    rw [← hE]
    intro p hp
    have := acc_bound (m := 10 ^ 12) (prods a b) [] 0 (fun p hp => (List.not_mem_nil hp).elim) (fun p hp => by
      obtain ⟨q, hq, hp⟩ := List.mem_flatMap.1 hp
      obtain ⟨q2, hq2, rfl⟩ := List.mem_map.1 hp
      show (q.2 * q2.2).natAbs ≤ _
      rw [Int.natAbs_mul]
      exact Nat.le_trans (Nat.mul_le_mul (ha.c q hq).2 (hb.c q2 hq2).2) (by decide)) p hp
    rw [prods_len] at this
    have : a.length * b.length ≤ 8 * 8 := Nat.mul_le_mul fa fb
    have : a.length * b.length * 10 ^ 12 ≤ 64 * 10 ^ 12 := Nat.mul_le_mul_right _ this
    omega
  have nE : E.length ≤ 64 := by
    rw [← hE]
    have e1 := acc_len (prods a b) []
    rw [prods_len] at e1
    have : a.length * b.length ≤ 8 * 8 := Nat.mul_le_mul fa fb
    simp only [List.length_nil] at e1
    omega
  have pD : Pl (.tuple (sm (toldP D))) 3 (16 * 15) := pl_told (fun p hp => ⟨by rw [(rD p hp).1]; exact hn6, (rD p hp).2, cD p hp⟩) nD
  have pE : Pl (.tuple (sm (toldP E))) 3 (64 * 15) := pl_told (fun p hp => ⟨by rw [(rE p hp).1]; exact hn6, (rE p hp).2, cE p hp⟩) nE
  unfold lb_9
  infer_instance
  rw [q_call add_at]
  infer_instance
  rw [ex_eq (add_spec (Φ' := Ph5) rfl a b t hn (fun p hp => (la p hp).1) (fun p hp => (lb p hp).1) (by omega) (by omega)), hD]
  infer_instance
  rw [pD.fine.repr (by omega) (by omega)]
  infer_instance
  rw [q_call told_at]
  infer_instance
  rw [ex_eq (told_spec hn (D := D) (fun p hp => (rD p hp).1) (by rw [sizeLine_eq]; omega))]
  infer_instance
  rw [pD.fine.repr (by omega) (by omega)]
  infer_instance
  rw [pD.fine.ne]
  infer_instance
  unfold lb_10
  infer_instance
  rw [q_call muls_at]
  infer_instance
  rw [ex_eq (mulsum_spec (Φ' := Ph5) (Φ'' := Ph1) rfl rfl a b _ _ (.inl rfl) (.inl rfl) hn hn6 la (fun p hp => (lb p hp).1) (by omega) (by omega)), hE]
  infer_instance
  rw [q_call muls_at]
  infer_instance
  rw [ex_eq (mulsum_spec (Φ' := Ph5) (Φ'' := Ph1) rfl rfl b a _ _ (.inl rfl) (.inl rfl) hn hn6 lb (fun p hp => (la p hp).1) (by omega) (by omega)), ← toldP_acc (prods_comm a b), hE]
  infer_instance
  have hf2 : Fine (.list [.tuple (sm (toldP E)), .tuple (sm (toldP E))]) 4 (2 * (64 * 15 + 1)) := pl_list 2 (fun x hx => by
    simp only [List.mem_cons, List.not_mem_nil, or_false] at hx
    rcases hx with rfl | rfl
    · exact pE
    · exact pE) (by simp)
  rw [hf2.repr (by omega) (by omega)]
  infer_instance
  rw [q_call told_at]
  infer_instance
  rw [ex_eq (told_spec hn (D := E) (fun p hp => (rE p hp).1) (by rw [sizeLine_eq]; omega))]
  infer_instance
  rw [mul_l2]
  infer_instance
  rw [hf2.repr (by omega) (by omega)]
  infer_instance
  rw [hf2.ne]
  infer_instance
  unfold lb_11
  infer_instance
  rw [q_call add_at]
  infer_instance
  have mo : ∀ P : Poly, tms (-1) P = P.map fun p : List Nat × Int => (p.1, -1 * p.2) := fun _ => rfl
  rw [ex_eq (add_spec (Φ' := Ph5) rfl a a (0 - 1) hn (fun p hp => (la p hp).1) (fun p hp => (la p hp).1) (by decide) (by omega)), show tms (0 - 1) a = a.map fun p : List Nat × Int => (p.1, -1 * p.2) from rfl, toldP_minus (sum_nodup ha)]
  infer_instance
  rw [show cmpSem .ne (.d (.tuple (sm []))) (.d (.tuple [])) = some false from cmp_neNilT rfl]
  infer_instance
  rw [q_call muls_at]
  infer_instance
  rw [ex_eq (mulsum_spec (Φ' := Ph5) (Φ'' := Ph1) rfl rfl a [] _ (.d (.tuple [])) (.inl rfl) (.inr rfl) hn hn6 la (fun p hp => (List.not_mem_nil hp).elim) (by omega) (by simp)), show prods a [] = [] by unfold prods; simp]
  infer_instance
  rw [show toldP (acc [] []) = [] from toldP_zero fun k => rfl, show cmpSem .ne (.d (.tuple (sm []))) (.d (.tuple [])) = some false from cmp_neNilT rfl]
  infer_instance
  rw [hf.repr (by omega) (by omega)]
  infer_instance
  rw [← hheld, hf.ne]
  infer_instance
  exact hk _ _ _ _ _ _ _ _ _
end K85


set_option Elab.async false
set_option linter.all false
set_option maxRecDepth 100000
set_option maxHeartbeats 4000000
set_option pp.maxSteps 600
namespace K85
open PySem PySem.Spec PyProof.Rows L2 Vm

local macro_rules | `(tactic| infer_instance) => `(tactic| simp -dsimp only [q_int, q_bl, q_non, q_str, q_var, q_bor, q_mov, q_bin, q_neg, q_cmp, q_not, q_and, q_or, q_ife, q_tup, q_lst, q_idx, q_slc, q_rev, q_fn, q_mt, q_lcStep, q_lc, q_dnew, q_dof, q_sg, q_sl, q_sp, q_nil, q_cons, q_oeno, q_oeyes, q_ocno, q_ocyes, q_tv, q_tand, q_tor, q_tnot, q_seq, q_rng1, q_rng2, q_zip, q_zips, outK_nx, outK_ret, outK_brk, outK_cnt, q_snil, q_scons, q_set, q_par, q_ifs, q_forStep, q_forr, q_whl, q_ret, q_retn, q_brk, q_cnt, q_pass, q_sw, retP_ret, retS_ret, ex_some, ex_none, ex_iteN, ex_map, ex_bind,
  rdVar, rdBor, rdMov, frz_d, frz_pt, frz_lst, frz_mat, frz_dct, frz_fdct, frz_src, List.getElem?_cons_zero, List.getElem?_cons_succ, St.set, List.set_cons_zero, List.set_cons_succ, Option.map_some, Option.map_none, Option.bind_some, Option.bind_none, isSrc, sget_left, sget_mixed, sget_turn, sput_left, sput_mixed, sput_turn, vw_d, vw_pt, vw_lst, cmp_lt, cmp_gt, cmp_le, cmp_ge, cmp_eqI, cmp_neI, bin_add, bin_sub, tru_b, boolO, intO, put, puts, slot_d, slot_pt, slot_lst, slot_mat, slot_dct, slot_fdct, List.length_cons, List.length_nil, Nat.zero_le, sl_1, sl_2, sl_3, sl_4, sl_5, sl_6, sl_7, sl_8, sl_9, sl_10, sl_11, sl_12, sl_13, sl_14, sl_15, sl_16, sl_17, sl_18, sl_19, sl_20, sl_21, sl_22, sl_23, sl_24, sl_25, sl_26, sl_27, sl_28, sl_29, sl_30, sl_31, sl_32, sl_33, sl_34, sl_35, sl_36, sl_37, sl_38, sl_39, sl_40, Nat.reduceAdd, Nat.reduceLT, Nat.reduceLeDiff, cmp_eqNil, and_true, true_and, and_self, forall_const, true_implies, false_implies, reduceCtorEq, decide_eq_true_eq, decide_eq_false_iff_not, if_true, if_false, Int.reduceNeg, Option.some.injEq, pr_lenL, pr_lenH, pr_lenT, pr_lenD, pr_abs, pr_intI, pr_intB, pr_all, pr_any, pr_sum, pr_max, pr_min, pr_max2, pr_min2, pr_tupL', pr_tupT, pr_listL, pr_listT, pr_sortL, pr_sortD, cmp_isB, cmp_isnB, tru_i, cmp_neNil, add_L, add_T, slc_L, slc_T, rev_L, rev_T, seqP_pt, seqP_lst, seqP_dl, tupO_dat, tupO_frz, tupO_slot, tupO_free, tupO_vw, vwAll, datAll, dat_d, dat_pt, dat_lst, dat_mat, dat_dct0, implies_true, frzAll, vw, vw0, seqOf, mtTy, List.all_cons, List.all_nil, free_d, free_pt, free_lst, free_dct, free_fdct, Bool.and_self, Bool.and_true, Bool.true_and, idx_list, idx_tup, at_c0, at_c1, clr, asg, asgs, List.length_map, Bool.not_eq_true', beq_self_eq_true, Bool.true_eq_false, Bool.not_eq_false', Bool.not_true, Bool.not_false, Bool.false_eq_true])

theorem bent_at : Ph.s "_law_bent" = some (3, recS Ph11 "_law_bent" 3 5 a_law_bent 8) := rfl
theorem isterm_at : Ph.p "is_term" = some (2, runP Ph0 3 a_is_term) := rfl
theorem issum_at : Ph.p "is_term_sum" = some (2, runP Ph4 4 a_is_term_sum) := rfl
theorem lawterm_at : Ph.p "_law_is_term" = some (2, runP Ph13 3 a_law_is_term) := rfl
theorem lawsum_at : Ph.p "_law_is_sum" = some (2, runP Ph14 6 a_law_is_sum) := rfl
theorem Bs.tup {xs : List PyData} (h : ∀ x ∈ xs, Bs x) : Bs (.tuple xs) := by
  refine ⟨?_, ?_, ?_⟩
  · rw [okV, okVs_iff]; exact fun x hx => (h x hx).ok
  · rw [nolst, nolsts_iff]; exact fun x hx => (h x hx).nl
  · rw [PyData.hasDict, hasDictAll_iff]; exact fun x hx => (h x hx).nd
theorem Bs.int {i : Int} (h : i.natAbs < 10 ^ 32) : Bs (.int i) := ⟨by rw [okV]; exact decide_eq_true h, rfl, by rw [PyData.hasDict]⟩
theorem bs_tm {ks : List Nat} (hk : ∀ k ∈ ks, k ≤ 24) : Bs (.tuple (nums ks)) := Bs.tup fun x hx => by
  obtain ⟨k, hk2, rfl⟩ := List.mem_map.1 hx
  have := hk k hk2
  exact Bs.int (by omega)
theorem bs_sm {n : Nat} {a : Poly} (ha : SumOk n a) : Bs (.tuple (sm a)) := Bs.tup fun x hx => by
  obtain ⟨p, hp, rfl⟩ := List.mem_map.1 hx
  refine Bs.tup fun y hy => ?_
  simp only [List.mem_cons, List.not_mem_nil, or_false] at hy
  rcases hy with rfl | rfl
  · exact bs_tm fun k hk => by have := ha.num p hp k hk; omega
  · exact Bs.int (by have := (ha.c p hp).2; omega)
theorem ftup {xs : List PyData} (h : ∀ x ∈ xs, Pl x 5 200) (hl : xs.length ≤ 20) : Fine (.tuple xs) 10 5000 := (Pl.tup h hl).fine.mono (by omega) (by omega)
theorem flist {xs : List PyData} (h : ∀ x ∈ xs, Pl x 5 200) (hl : xs.length ≤ 20) : Fine (.list xs) 10 5000 := (Pl.list h hl).fine.mono (by omega) (by omega)
theorem datAll_of {F : PyData → Prop} : ∀ os : List O, (∀ o ∈ os, ∃ x, o = .d x ∧ F x) → ∃ xs : List PyData, datAll os = some xs ∧ xs.length = os.length ∧ ∀ x ∈ xs, F x
  | [], _ => ⟨[], rfl, rfl, fun _ z => (List.not_mem_nil z).elim⟩
  | o :: os, h => by
    obtain ⟨x, rfl, hx⟩ := h o List.mem_cons_self
    obtain ⟨xs, e, hl, hxs⟩ := datAll_of os fun o ho => h o (List.mem_cons_of_mem _ ho)
    refine ⟨x :: xs, ?_, by rw [List.length_cons, List.length_cons, hl], fun y hy => ?_⟩
    · show ((datAll os).map (x :: ·)) = _
      rw [e]; rfl
    · rcases List.mem_cons.1 hy with rfl | hy
      · exact hx
      · exact hxs y hy
theorem chunkC {n : Nat} (hn : 1 ≤ n) (hn6 : n ≤ 6) (odd : List PyData) (hodd : ∀ x ∈ odd, Fine x 3 10) (hne : odd ≠ []) (hol : odd.length < 100) (Q : Out → Prop) (one other : List Nat) (a b : Poly) (o2 : Option O) (ho2 : o2 = some (.lst odd) ∨ o2 = some (.d (.list odd))) (d12 d13 d14 d15 d16 d17 d18 d19 d20 : Option O) (c21 c22 c23 c24 c25 : Option O) (s : Src) (hs : s.cells.length ≤ 63)
    (g1 : one.length = n) (k1 : ∀ k ∈ one, k ≤ 24) (ha : SumOk n a) (k : ∀ (p2 : Option O) (e4 e5 e6 e7 e8 e9 e10 e11 e12 e13 e14 e15 e16 e17 e18 e19 e20 e21 e22 e23 e24 e25 : Option O) (s : Src), (p2 = some (.lst odd) ∨ p2 = some (.d (.list odd))) → s.cells.length ≤ 63 → Q (.nx ⟨[none, some .src, p2, some (.d (.int (n : Int))), e4, e5, e6, e7, e8, e9, e10, e11, e12, e13, e14, e15, e16, e17, e18, e19, e20, e21, e22, e23, e24, e25], some s⟩)) : Ex (x := evSs Ph lb_12 ⟨[none, some .src, o2, some (.d (.int (n : Int))), some (.d (tm one)), some (.d (tm other)), some (.d (tm (addT one other))), none, none, some (.d (.bool (divs other one))), some (.pt (sm a)), some (.pt (sm b)), d12, d13, d14, d15, d16, d17, d18, d19, d20, c21, c22, c23, c24, c25], some s⟩) Q := by
  show Ex (x := evSs Ph lb_12 ⟨[none, some .src, o2, some (.d (.int (n : Int))), some (.d (.tuple (nums one))), some (.d (tm other)), some (.d (tm (addT one other))), none, none, some (.d (.bool (divs other one))), some (.pt (sm a)), some (.pt (sm b)), d12, d13, d14, d15, d16, d17, d18, d19, d20, c21, c22, c23, c24, c25], some s⟩) Q
  have fa := ha.few
  have hsa : ∀ x ∈ sm a, Pl x 2 14 := fun x hx => by
    obtain ⟨p, hp, rfl⟩ := List.mem_map.1 hx
    exact pl_pair (pl_tm (by rw [ha.len p hp]; exact hn6) fun k hk => by have := ha.num p hp k hk; omega) (by have := (ha.c p hp).2; omega)
  have hso : ∀ x ∈ nums one, Pl x 0 0 := fun x hx => by
    obtain ⟨k, hk2, rfl⟩ := List.mem_map.1 hx
    have := k1 k hk2
    exact Pl.int (by omega)
  have lsa : (sm a).length ≤ 8 := by unfold sm; rw [List.length_map]; exact fa
  have lso : (nums one).length ≤ 6 := by rw [nums_length]; omega
  have pone : Pl (.tuple (nums one)) 1 6 := Pl.tup hso lso
  have pdrop : Pl (.tuple ((nums one).drop 1)) 1 6 := Pl.tup (d := 0) (b := 0) (m := 6) (fun x hx => hso x (List.mem_of_mem_drop hx)) (by rw [List.length_drop]; omega)
  unfold lb_12
  infer_instance
  rw [cut_to1]
  have l1 : ((sm a).take 1).length ≤ 1 := by rw [List.length_take]; omega
  refine ⟨by rw [sizeLine_eq]; omega, by rw [sizeLine_eq]; omega, ?_⟩
  rw [cut_from1]
  rw [q_app _ _ _ ⟨_, rfl⟩]
  generalize hL : [PyData.tuple (sm a), PyData.list (sm a), PyData.tuple (sm a).reverse, PyData.tuple (sm a ++ List.take 1 (sm a)), PyData.tuple (sm a ++ [PyData.tuple [PyData.tuple (nums one), PyData.int 0]]), PyData.tuple [PyData.tuple [PyData.tuple (nums one), PyData.int 1]], PyData.tuple [PyData.tuple [PyData.tuple (List.drop 1 (nums one)), PyData.int 1]], PyData.tuple [PyData.tuple (nums one), PyData.int 1], PyData.tuple (nums one)] = L
  have fL : ∀ x ∈ L, Fine x 10 5000 := by
    intro x hx
    rw [← hL] at hx
    simp only [List.mem_cons, List.not_mem_nil, or_false] at hx
    have h1 : ∀ x ∈ sm a, Pl x 5 200 := fun x hx => (hsa x hx).mono (by omega) (by omega)
    have p1 : ∀ c : Int, c.natAbs < 10 ^ 38 → Pl (.tuple [.tuple (nums one), .int c]) 5 200 := fun c hc => (pl_pair pone hc).mono (by omega) (by omega)
    rcases hx with rfl | rfl | rfl | rfl | rfl | rfl | rfl | rfl | rfl
    · exact ftup h1 (by omega)
    · exact flist h1 (by omega)
    · exact ftup (fun x hx => h1 x (List.mem_reverse.1 hx)) (by rw [List.length_reverse]; omega)
    · exact ftup (fun x hx => (List.mem_append.1 hx).elim (h1 x) fun q => h1 x (List.mem_of_mem_take q)) (by rw [List.length_append]; omega)
    · exact ftup (fun x hx => (List.mem_append.1 hx).elim (h1 x) fun q => by rw [List.mem_singleton.1 q]; exact p1 0 (by decide)) (by rw [List.length_append]; simp only [List.length_cons, List.length_nil]; omega)
    · exact ftup (fun x hx => by rw [List.mem_singleton.1 hx]; exact p1 1 (by decide)) (by simp)
    · exact ftup (fun x hx => by rw [List.mem_singleton.1 hx]; exact (pl_pair pdrop (by decide)).mono (by omega) (by omega)) (by simp)
    · exact (p1 1 (by decide)).fine.mono (by omega) (by omega)
    · exact pone.fine.mono (by omega) (by omega)
  have nL : L.length = 9 := by rw [← hL]; rfl
  infer_instance
  rw [app_l (xs := L) (y := .list (nums one)) rfl rfl (by rw [sizeLine_eq]; omega)]
  infer_instance
  rw [cut_from1]
  refine ⟨by rw [nums_length, sizeLine_eq]; omega, ?_⟩
  refine Ex.of (lc_pureM (fun k : Nat => PyData.int (k : Int)) (fun k : Nat => some (.d (if k = 1 then .bool true else .int (k : Int)))) one fun k hk => ?_) ?_
  · infer_instance
    refine ⟨fun q => ?_, fun q => ?_⟩
    · have : k = 1 := by omega
      subst this
      rfl
    · have : ¬ k = 1 := by omega
      rw [if_neg this]
  rw [filterMap_some]
  infer_instance
  rw [datAll_d (fun k : Nat => if k = 1 then PyData.bool true else .int (k : Int))]
  infer_instance
  refine ⟨by rw [sizeLine_eq]; omega, by rw [List.length_append, sizeLine_eq]; simp only [List.length_cons, List.length_nil]; omega, ?_⟩
  generalize hL2 : L ++ [PyData.list (nums one)] ++ [PyData.tuple (nums one ++ [PyData.int 0]), PyData.tuple (List.drop 1 (nums one)), PyData.tuple (one.map fun k : Nat => if k = 1 then PyData.bool true else .int (k : Int))] = L2
  have fL2 : ∀ x ∈ L2, Fine x 10 5000 := by
    intro x hx
    rw [← hL2] at hx
    have h1 : ∀ x ∈ nums one, Pl x 5 200 := fun x hx => (hso x hx).mono (by omega) (by omega)
    rcases List.mem_append.1 hx with hx | hx
    · rcases List.mem_append.1 hx with hx | hx
      · exact fL x hx
      · rw [List.mem_singleton.1 hx]
        exact flist h1 (by omega)
    · simp only [List.mem_cons, List.not_mem_nil, or_false] at hx
      rcases hx with rfl | rfl | rfl
      · exact ftup (fun x hx => (List.mem_append.1 hx).elim (h1 x) fun q => by rw [List.mem_singleton.1 q]; exact (Pl.int (by decide)).mono (by omega) (by omega)) (by rw [List.length_append]; simp only [List.length_cons, List.length_nil]; omega)
      · exact pdrop.fine.mono (by omega) (by omega)
      · refine ftup (fun x hx => ?_) (by rw [List.length_map]; omega)
        obtain ⟨k, hk, rfl⟩ := List.mem_map.1 hx
        have := k1 k hk
        split
        · exact (Pl.bool _).mono (by omega) (by omega)
        · exact (Pl.int (by omega)).mono (by omega) (by omega)
  have nL2 : L2.length = 13 := by rw [← hL2]; simp [nL]
  refine ⟨by decide, ?_⟩
  refine (lc_inv (fun st => ∃ (p2 : Option O) (s : Src), (p2 = some (.lst odd) ∨ p2 = some (.d (.list odd))) ∧ s.cells.length ≤ 63 ∧ st = ⟨[none, some .src, p2, some (.d (.int (n : Int))), some (.d (.tuple (nums one))), some (.d (tm other)), some (.d (tm (addT one other))), none, none, some (.d (.bool (divs other one))), some (.pt (sm a)), some (.pt (sm b)), d12, d13, d14, d15, d16, d17, d18, d19, d20, some (.lst L2), none, c23, c24, c25], some s⟩) (fun o => ∃ x, o = .d x ∧ Fine x 10 5000) _ _ ⟨o2, s, ho2, hs, rfl⟩ ?_).mono ?_
  · rintro x hx st ⟨p2, s, hp2, hs, rfl⟩
    infer_instance
    rw [q_calls bent_at]
    infer_instance
    rw [q_calls of_at]
    infer_instance
    refine (of_spec (Φ' := Ph8) rfl s _ rfl (List.cons_ne_nil _ _) (by simp) hs).mono fun r ⟨y, hy, s3, e, h3⟩ => ?_
    subst e
    have hyb : Bs y ∧ y.depth ≤ 3 ∧ y.bulk ≤ 120 := by
      have pa : Pl (.tuple (sm a)) 3 (8 * 15) := Pl.tup hsa lsa
      simp only [List.mem_cons, List.not_mem_nil, or_false] at hy
      rcases hy with rfl | rfl
      · exact ⟨bs_sm ha, pa.dep, pa.blk⟩
      · exact ⟨bs_tm k1, Nat.le_trans pone.dep (by omega), Nat.le_trans pone.blk (by omega)⟩
    obtain ⟨y1, y2, y3⟩ := hyb
    have fin : Ex (x := recS Ph11 "_law_bent" 3 5 a_law_bent 8 [.src, .d y, .d (.list odd)] s3) fun r => ∃ (x : PyData) (s' : Src), r = (.d x, s') ∧ Fine x 10 5000 ∧ s'.cells.length ≤ 63 :=
      (bent_spec odd hodd hne (by omega) 8 y s3 (by omega) (by omega) (by omega) y1 h3).mono fun r ⟨x, s', e, hf, h4⟩ => ⟨x, s', e, hf.mono (by omega) (by omega), h4⟩
    rcases hp2 with rfl | rfl
    · infer_instance
      refine fin.mono fun r ⟨x, s', e, hf, h4⟩ => ?_
      subst e
      infer_instance
      exact ⟨fun o ho => ⟨x, ho.symm, hf⟩, _, s', .inr rfl, h4, rfl⟩
    · infer_instance
      refine fin.mono fun r ⟨x, s', e, hf, h4⟩ => ?_
      subst e
      infer_instance
      exact ⟨fun o ho => ⟨x, ho.symm, hf⟩, _, s', .inr rfl, h4, rfl⟩
  rintro ⟨os, st⟩ ⟨ho, hol2, p2, s4, hp2, hs4, rfl⟩
  obtain ⟨L3, e3, n3, f3⟩ := datAll_of (F := fun x => Fine x 10 5000) os ho
  have n3' : L3.length ≤ 16 := by rw [n3]; exact hol2
  infer_instance
  rw [e3]
  infer_instance
  refine ⟨by rw [sizeLine_eq]; omega, by rw [sizeLine_eq]; omega, ?_⟩
  have fin : ∀ L4 : List PyData, L4 = L2 ++ L3 ++ odd → Ex (x := forLoop (forStep Ph (.nm 23) vb_0) L4 ⟨[none, some .src, p2, some (.d (.int (n : Int))), some (.d (.tuple (nums one))), some (.d (tm other)), some (.d (tm (addT one other))), none, none, some (.d (.bool (divs other one))), some (.pt (sm a)), some (.pt (sm b)), d12, d13, d14, d15, d16, d17, d18, d19, d20, some (.lst (L2 ++ L3)), none, c23, c24, c25], some s4⟩) (OutK Ph .nil Q) := by
    intro L4 hL4
    have fL4 : ∀ x ∈ L4, Fine x 10 5000 := fun x hx => by
      rw [hL4] at hx
      rcases List.mem_append.1 hx with hx | hx
      · rcases List.mem_append.1 hx with hx | hx
        · exact fL2 x hx
        · exact f3 x hx
      · exact (hodd x hx).mono (by omega) (by omega)
    refine for_pre0 (fun d st => ∃ v23 v24 v25 : Option O, st = ⟨[none, some .src, p2, some (.d (.int (n : Int))), some (.d (.tuple (nums one))), some (.d (tm other)), some (.d (tm (addT one other))), none, none, some (.d (.bool (divs other one))), some (.pt (sm a)), some (.pt (sm b)), d12, d13, d14, d15, d16, d17, d18, d19, d20, some (.lst (L2 ++ L3)), none, v23, v24, v25], some s4⟩) L4 _ ⟨_, _, _, rfl⟩ ?_ ?_
    · rintro d x r st e ⟨v23, v24, v25, rfl⟩
      have hx := fL4 x (by rw [e]; exact List.mem_append_right _ List.mem_cons_self)
      have hxb : x.bulk ≤ sizeLine := Nat.le_trans hx.blk (by rw [sizeLine_eq]; omega)
      infer_instance
      unfold vb_0
      infer_instance
      rw [hx.repr (by omega) (by omega)]
      infer_instance
      rw [q_call isterm_at]
      infer_instance
      rw [ex_eq (isterm_spec n x hx.ok hxb)]
      infer_instance
      rw [q_call issum_at]
      infer_instance
      rw [ex_eq (issum_spec (Φ' := Ph0) rfl n x hx.ok hxb)]
      infer_instance
      have hf : Fine (.list [.bool (isTm n x), .bool (isSm n x)]) 1 2 := pl_list 2 (d := 0) (b := 0) (fun y hy => by
        simp only [List.mem_cons, List.not_mem_nil, or_false] at hy
        rcases hy with rfl | rfl
        · exact Pl.bool _
        · exact Pl.bool _) (by simp)
      rw [hf.repr (by omega) (by omega)]
      infer_instance
      rw [q_call lawterm_at]
      infer_instance
      rw [ex_eq (lawterm_spec (Φ' := Ph10) rfl n x hx.ok hxb)]
      infer_instance
      rw [q_call lawsum_at]
      infer_instance
      rw [ex_eq (lawsum_spec (Φ' := Ph13) (Φ'' := Ph10) (Φ3 := Ph10) rfl rfl rfl n x hx.ok hxb)]
      infer_instance
      rw [hf.repr (by omega) (by omega)]
      infer_instance
      rw [hf.ne]
      infer_instance
      rw [hx.repr (by omega) (by omega)]
      infer_instance
      rw [hx.ne]
      infer_instance
      exact ⟨_, _, _, rfl⟩
    · rintro st ⟨v23, v24, v25, rfl⟩
      rw [outK_nx, q_snil]
      exact k _ _ _ _ _ _ _ _ _ _ _ _ _ _ _ _ _ _ _ _ _ _ _ _ hp2 hs4
  unfold lb_16
  rcases hp2 with rfl | rfl
  · infer_instance
    exact ⟨by rw [List.length_append, sizeLine_eq]; omega, fin _ rfl⟩
  · infer_instance
    exact ⟨by rw [List.length_append, sizeLine_eq]; omega, fin _ rfl⟩
end K85


set_option Elab.async false
set_option linter.all false
set_option maxRecDepth 100000
set_option maxHeartbeats 4000000
set_option pp.maxSteps 600
namespace K85
open PySem PySem.Spec PyProof.Rows L2 Vm

local macro_rules | `(tactic| infer_instance) => `(tactic| simp -dsimp only [q_int, q_bl, q_non, q_str, q_var, q_bor, q_mov, q_bin, q_neg, q_cmp, q_not, q_and, q_or, q_ife, q_tup, q_lst, q_idx, q_slc, q_rev, q_fn, q_mt, q_lcStep, q_lc, q_dnew, q_dof, q_sg, q_sl, q_sp, q_nil, q_cons, q_oeno, q_oeyes, q_ocno, q_ocyes, q_tv, q_tand, q_tor, q_tnot, q_seq, q_rng1, q_rng2, q_zip, q_zips, outK_nx, outK_ret, outK_brk, outK_cnt, q_snil, q_scons, q_set, q_par, q_ifs, q_forStep, q_forr, q_whl, q_ret, q_retn, q_brk, q_cnt, q_pass, q_sw, retP_ret, retS_ret, ex_some, ex_none, ex_iteN, ex_map, ex_bind,
  rdVar, rdBor, rdMov, frz_d, frz_pt, frz_lst, frz_mat, frz_dct, frz_fdct, frz_src, List.getElem?_cons_zero, List.getElem?_cons_succ, St.set, List.set_cons_zero, List.set_cons_succ, Option.map_some, Option.map_none, Option.bind_some, Option.bind_none, isSrc, sget_left, sget_mixed, sget_turn, sput_left, sput_mixed, sput_turn, vw_d, vw_pt, vw_lst, cmp_lt, cmp_gt, cmp_le, cmp_ge, cmp_eqI, cmp_neI, bin_add, bin_sub, tru_b, boolO, intO, put, puts, slot_d, slot_pt, slot_lst, slot_mat, slot_dct, slot_fdct, List.length_cons, List.length_nil, Nat.zero_le, sl_1, sl_2, sl_3, sl_4, sl_5, sl_6, sl_7, sl_8, sl_9, sl_10, sl_11, sl_12, sl_13, sl_14, sl_15, sl_16, sl_17, sl_18, sl_19, sl_20, sl_21, sl_22, sl_23, sl_24, sl_25, sl_26, sl_27, sl_28, sl_29, sl_30, sl_31, sl_32, sl_33, sl_34, sl_35, sl_36, sl_37, sl_38, sl_39, sl_40, Nat.reduceAdd, Nat.reduceLT, Nat.reduceLeDiff, cmp_eqNil, and_true, true_and, and_self, forall_const, true_implies, false_implies, reduceCtorEq, decide_eq_true_eq, decide_eq_false_iff_not, if_true, if_false, Int.reduceNeg, Option.some.injEq, pr_lenL, pr_lenH, pr_lenT, pr_lenD, pr_abs, pr_intI, pr_intB, pr_all, pr_any, pr_sum, pr_max, pr_min, pr_max2, pr_min2, pr_tupL', pr_tupT, pr_listL, pr_listT, pr_sortL, pr_sortD, cmp_isB, cmp_isnB, tru_i, cmp_neNil, add_L, add_T, slc_L, slc_T, rev_L, rev_T, seqP_pt, seqP_lst, seqP_dl, tupO_dat, tupO_frz, tupO_slot, tupO_free, tupO_vw, vwAll, datAll, dat_d, dat_pt, dat_lst, dat_mat, dat_dct0, implies_true, frzAll, vw, vw0, seqOf, mtTy, List.all_cons, List.all_nil, free_d, free_pt, free_lst, free_dct, free_fdct, Bool.and_self, Bool.and_true, Bool.true_and, idx_list, idx_tup, at_c0, at_c1, clr, asg, asgs, List.length_map, Bool.not_eq_true', beq_self_eq_true, Bool.true_eq_false, Bool.not_eq_false', Bool.not_true, Bool.not_false, Bool.false_eq_true])

def odds : List PyData := [.none, .bool true, .bool false, .str (Str.ofString "x"), .tuple [], .tuple [.int 0], .list [.int 0], .dict [], .int 0, .int 1, .int (0 - 1), .tuple [.tuple [.int 0], .int 1], .tuple [.tuple [.tuple [.int 0], .int 1]], .tuple [.tuple [.tuple [.int 0, .int 0], .int 0]], .int 1000000000000000000000000000000]
theorem odds_fine : ∀ x ∈ odds, Fine x 3 10 := by
  intro x hx
  simp only [odds, List.mem_cons, List.not_mem_nil, or_false] at hx
  rcases hx with rfl | rfl | rfl | rfl | rfl | rfl | rfl | rfl | rfl | rfl | rfl | rfl | rfl | rfl | rfl
  all_goals exact ⟨by decide +kernel, by decide +kernel, by decide +kernel, by decide +kernel⟩
theorem cells_src (ns : List Int) : (srcOf ns).cells.length = ns.length := by
  unfold srcOf
  simp
theorem says_true : SaysTrue Ph n_law.length a_law := by
  intro ns hn hb
  have main : Ex (x := evSs Ph a_law (lawSt n_law.length ns)) fun o => ∃ s', o = .ret (.d (.bool true)) s' := by
    rw [a_law_eq]
    show Ex (x := evSs Ph _ ⟨[none, some .src, none, none, none, none, none, none, none, none, none, none, none, none, none, none, none, none, none, none, none, none, none, none, none, none], some (srcOf ns)⟩) _
    generalize hs0 : srcOf ns = s0
    have hs : s0.cells.length ≤ 63 := by rw [← hs0, cells_src]; exact hn
    infer_instance
    rw [show binSem .pow (.d (.int 10)) (.d (.int 30)) = some (.d (.int 1000000000000000000000000000000)) from rfl]
    infer_instance
    rw [show ([.none, .bool true, .bool false, .str (Str.ofString "x"), .tuple [], .tuple [.int 0], .list [.int 0], .dict [], .int 0, .int 1, .int (0 - 1), .tuple [.tuple [.int 0], .int 1], .tuple [.tuple [.tuple [.int 0], .int 1]], .tuple [.tuple [.tuple [.int 0, .int 0], .int 0]], .int 1000000000000000000000000000000] : List PyData) = odds from rfl]
    rw [q_calls pick_at]
    infer_instance
    refine (pick_nat s0 6 hs (by omega) (by omega)).mono fun r ⟨v, s1, e, h1, h2⟩ => ?_
    subst e
    infer_instance
    refine forLoop_inv (fun xs st => (∀ x ∈ xs, ∃ n : Nat, x = .int (n : Int) ∧ 1 ≤ n ∧ n ≤ 6) ∧ ∃ (p2 : Option O) (c3 c4 c5 c6 c7 c8 c9 c10 c11 c12 c13 c14 c15 c16 c17 c18 c19 c20 c21 c22 c23 c24 c25 : Option O) (s : Src), (p2 = some (.lst odds) ∨ p2 = some (.d (.list odds))) ∧ s.cells.length ≤ 63 ∧ st = ⟨[none, some .src, p2, c3, c4, c5, c6, c7, c8, c9, c10, c11, c12, c13, c14, c15, c16, c17, c18, c19, c20, c21, c22, c23, c24, c25], some s⟩) ?_ ?_ _ _ ?_
    · rintro x xs st ⟨hx, p2, c3, c4, c5, c6, c7, c8, c9, c10, c11, c12, c13, c14, c15, c16, c17, c18, c19, c20, c21, c22, c23, c24, c25, s, hp2, hs, rfl⟩
      obtain ⟨n, rfl, hn1, hn6⟩ := hx x List.mem_cons_self
      infer_instance
      refine chunkA hn1 hn6 p2 _ c4 c5 c6 c7 c8 c9 c10 c11 c12 c13 c14 c15 c16 c17 c18 c19 c20 c21 c22 c23 c24 c25 s hs fun one other s g1 g2 k1 k2 hs => ?_
      refine chunkB hn1 hn6 p2 _ one other c10 c11 c12 c13 c14 c15 c16 c17 c18 c19 c20 c21 c22 c23 c24 c25 s hs fun a b s d12 d13 d14 d15 d16 d17 d18 d19 d20 ha hb hs => ?_
      refine chunkC hn1 hn6 odds odds_fine (by decide) (by decide) _ one other a b p2 hp2 d12 d13 d14 d15 d16 d17 d18 d19 d20 c21 c22 c23 c24 c25 s hs g1 k1 ha fun p2 e4 e5 e6 e7 e8 e9 e10 e11 e12 e13 e14 e15 e16 e17 e18 e19 e20 e21 e22 e23 e24 e25 s hp2 hs => ?_
      exact ⟨fun y hy => hx y (List.mem_cons_of_mem _ hy), p2, _, _, _, _, _, _, _, _, _, _, _, _, _, _, _, _, _, _, _, _, _, _, _, s, hp2, hs, rfl⟩
    · rintro st ⟨hx, p2, c3, c4, c5, c6, c7, c8, c9, c10, c11, c12, c13, c14, c15, c16, c17, c18, c19, c20, c21, c22, c23, c24, c25, s, hp2, hs, rfl⟩
      infer_instance
      unfold lend
      infer_instance
      rw [q_call isterm_at]
      infer_instance
      rw [ex_eq (isterm_spec (B := 100) 1 (.tuple [.int 0]) (by decide +kernel) (by decide +kernel)), show isTm 1 (.tuple [.int 0]) = true from rfl]
      infer_instance
      rw [q_call issum_at]
      infer_instance
      have h3 := issum_spec (Φ := Ph4) (B := 100) (Φ' := Ph0) rfl 3 (.tuple []) (by decide +kernel) (by decide +kernel)
      rw [show ((3 : Nat) : Int) = 3 from rfl] at h3
      rw [ex_eq h3, show isSm 3 (.tuple []) = true from rfl]
      infer_instance
      exact ⟨_, rfl⟩
    · refine ⟨fun x hx => ?_, some (.lst odds), none, none, none, none, none, none, none, none, none, none, none, none, none, none, none, none, none, none, none, none, none, none, none, s1, .inl rfl, h2, rfl⟩
      simp only [List.mem_cons, List.not_mem_nil, or_false] at hx
      rcases hx with rfl | rfl | rfl
      · exact ⟨4, rfl, by omega, by omega⟩
      · exact ⟨6, rfl, by omega, by omega⟩
      · exact ⟨v + 1, by rw [Int.natCast_add]; congr 1; omega, by omega, by omega⟩
  obtain ⟨o, e, s', rfl⟩ := main
  exact ⟨s', e⟩
end K85


namespace K85
open PySem PySem.Spec PyProof.Rows L2 Vm
theorem b_is_term : BindOk "is_term" (top 1) ["n", "value"] := fun _ _ _ _ _ _ us hl => match us, hl with
  | [_, _], _ => rfl
theorem b_multiplied_terms : BindOk "multiplied_terms" (top 2) ["one", "other"] := fun _ _ _ _ _ _ us hl => match us, hl with
  | [_, _], _ => rfl
theorem b_divides_term : BindOk "divides_term" (top 3) ["one", "other"] := fun _ _ _ _ _ _ us hl => match us, hl with
  | [_, _], _ => rfl
theorem b_term_quotient : BindOk "term_quotient" (top 4) ["term", "by"] := fun _ _ _ _ _ _ us hl => match us, hl with
  | [_, _], _ => rfl
theorem b_is_term_sum : BindOk "is_term_sum" (top 5) ["n", "value"] := fun _ _ _ _ _ _ us hl => match us, hl with
  | [_, _], _ => rfl
theorem b_told_term_sum : BindOk "told_term_sum" (top 6) ["numbers"] := fun _ _ _ _ _ _ us hl => match us, hl with
  | [_], _ => rfl
theorem b_added_term_sums : BindOk "added_term_sums" (top 7) ["one", "other", "times"] := fun _ _ _ _ _ _ us hl => match us, hl with
  | [_, _, _], _ => rfl
theorem b_multiplied_term_sums : BindOk "multiplied_term_sums" (top 8) ["one", "other"] := fun _ _ _ _ _ _ us hl => match us, hl with
  | [_, _], _ => rfl
theorem b_law_pick : BindOk "_law_pick" (top 11) ["source", "many"] := fun _ _ _ _ _ _ us hl => match us, hl with
  | [_, _], _ => rfl
theorem b_law_of : BindOk "_law_of" (top 12) ["source", "some"] := fun _ _ _ _ _ _ us hl => match us, hl with
  | [_, _], _ => rfl
theorem b_law_is_int : BindOk "_law_is_int" (top 13) ["value"] := fun _ _ _ _ _ _ us hl => match us, hl with
  | [_], _ => rfl
theorem b_law_bent : BindOk "_law_bent" (top 14) ["source", "value", "odd"] := fun _ _ _ _ _ _ us hl => match us, hl with
  | [_, _, _], _ => rfl
theorem b_law_term : BindOk "_law_term" (top 15) ["source", "n", "degree"] := fun _ _ _ _ _ _ us hl => match us, hl with
  | [_, _, _], _ => rfl
theorem b_law_is_term : BindOk "_law_is_term" (top 16) ["n", "value"] := fun _ _ _ _ _ _ us hl => match us, hl with
  | [_, _], _ => rfl
theorem b_law_is_sum : BindOk "_law_is_sum" (top 17) ["n", "value"] := fun _ _ _ _ _ _ us hl => match us, hl with
  | [_, _], _ => rfl
theorem b_law_told : BindOk "_law_told" (top 18) ["found"] := fun _ _ _ _ _ _ us hl => match us, hl with
  | [_], _ => rfl
theorem b_law_sum : BindOk "_law_sum" (top 19) ["source", "n", "most"] := fun _ _ _ _ _ _ us hl => match us, hl with
  | [_, _, _], _ => rfl
theorem b_law : BindOk "law" (top 20) ["script"] := fun _ _ _ _ _ _ us hl => match us, hl with
  | [_], _ => rfl
theorem b_src : BindOk "_law_source" (top 10) ["script"] := fun _ _ _ _ _ _ us hl => match us, hl with
  | [_], _ => rfl
theorem chain {P : Program} {w : World} {K : PySem.W.Frag} {mg : Str → Option Value} {base h : Heap} (KX : K.In h) (G : h.Ns mainGlobals mg) (hz : ∀ x ∈ bNames, mg x = none) (d_is_term : DefAt K "is_term" (top 1)) (d_multiplied_terms : DefAt K "multiplied_terms" (top 2)) (d_divides_term : DefAt K "divides_term" (top 3)) (d_term_quotient : DefAt K "term_quotient" (top 4)) (d_is_term_sum : DefAt K "is_term_sum" (top 5)) (d_told_term_sum : DefAt K "told_term_sum" (top 6)) (d_added_term_sums : DefAt K "added_term_sums" (top 7)) (d_multiplied_term_sums : DefAt K "multiplied_term_sums" (top 8)) (d_law_pick : DefAt K "_law_pick" (top 11)) (d_law_of : DefAt K "_law_of" (top 12)) (d_law_is_int : DefAt K "_law_is_int" (top 13)) (d_law_bent : DefAt K "_law_bent" (top 14)) (d_law_term : DefAt K "_law_term" (top 15)) (d_law_is_term : DefAt K "_law_is_term" (top 16)) (d_law_is_sum : DefAt K "_law_is_sum" (top 17)) (d_law_told : DefAt K "_law_told" (top 18)) (d_law_sum : DefAt K "_law_sum" (top 19)) (d_src : DefAt K "_law_source" (top 10)) :
    Base P w K mg base Ph 24 ∧ ∃ ks, ks ≤ 24 ∧ C8.Cal P w K mg base ks (Str.ofString "_law_source") (spSrc K) [] := by
  have B0 : Base P w K mg base Ph0 0 := base0 hz
  have B1 := B0.stepP d_is_term KX G b_is_term s_is_term_ok c_is_term_ok
  have B2 := B1.stepP d_multiplied_terms KX G b_multiplied_terms s_multiplied_terms_ok c_multiplied_terms_ok
  have B3 := B2.stepP d_divides_term KX G b_divides_term s_divides_term_ok c_divides_term_ok
  have B4 := B3.stepP d_term_quotient KX G b_term_quotient s_term_quotient_ok c_term_quotient_ok
  have B5 := B4.stepP d_is_term_sum KX G b_is_term_sum s_is_term_sum_ok c_is_term_sum_ok
  have B6 := B5.stepP d_told_term_sum KX G b_told_term_sum s_told_term_sum_ok c_told_term_sum_ok
  have B7 := B6.stepP d_added_term_sums KX G b_added_term_sums s_added_term_sums_ok c_added_term_sums_ok
  have B8 := B7.stepP d_multiplied_term_sums KX G b_multiplied_term_sums s_multiplied_term_sums_ok c_multiplied_term_sums_ok
  have B9 := B8.stepS d_law_pick KX G b_law_pick s_law_pick_ok c_law_pick_ok
  have B10 := B9.stepS d_law_of KX G b_law_of s_law_of_ok c_law_of_ok
  have B11 := B10.stepP d_law_is_int KX G b_law_is_int s_law_is_int_ok c_law_is_int_ok
  have B12 := B11.stepR d_law_bent KX G b_law_bent s_law_bent_ok c_law_bent_ok 8
  have B13 := B12.stepS d_law_term KX G b_law_term s_law_term_ok c_law_term_ok
  have B14 := B13.stepP d_law_is_term KX G b_law_is_term s_law_is_term_ok c_law_is_term_ok
  have B15 := B14.stepP d_law_is_sum KX G b_law_is_sum s_law_is_sum_ok c_law_is_sum_ok
  have B16 := B15.stepP d_law_told KX G b_law_told s_law_told_ok c_law_told_ok
  have B17 := B16.stepS d_law_sum KX G b_law_sum s_law_sum_ok c_law_sum_ok
  exact ⟨B17, 1, by decide, cal_src B0 d_src KX G b_src s_src_ok rfl rfl c_src_ok⟩
theorem all_mk {l : PySem.W.OpenLaw} {w : World} {K : PySem.W.Frag} {h : Heap} {mg : Str → Option Value} {fa : Addr} (KX : K.In h) (G : h.Ns mainGlobals mg) (hfa : mg "law" = some (.ref fa)) (d_is_term : DefAt K "is_term" (top 1)) (d_multiplied_terms : DefAt K "multiplied_terms" (top 2)) (d_divides_term : DefAt K "divides_term" (top 3)) (d_term_quotient : DefAt K "term_quotient" (top 4)) (d_is_term_sum : DefAt K "is_term_sum" (top 5)) (d_told_term_sum : DefAt K "told_term_sum" (top 6)) (d_added_term_sums : DefAt K "added_term_sums" (top 7)) (d_multiplied_term_sums : DefAt K "multiplied_term_sums" (top 8)) (d_law_pick : DefAt K "_law_pick" (top 11)) (d_law_of : DefAt K "_law_of" (top 12)) (d_law_is_int : DefAt K "_law_is_int" (top 13)) (d_law_bent : DefAt K "_law_bent" (top 14)) (d_law_term : DefAt K "_law_term" (top 15)) (d_law_is_term : DefAt K "_law_is_term" (top 16)) (d_law_is_sum : DefAt K "_law_is_sum" (top 17)) (d_law_told : DefAt K "_law_told" (top 18)) (d_law_sum : DefAt K "_law_sum" (top 19)) (d_src : DefAt K "_law_source" (top 10)) (d_law : DefAt K "law" (top 20)) (z_len : PySem.W.nsIn K mainGlobals "len" = some none) (z_abs : PySem.W.nsIn K mainGlobals "abs" = some none) (z_int : PySem.W.nsIn K mainGlobals "int" = some none) (z_bool : PySem.W.nsIn K mainGlobals "bool" = some none) (z_str : PySem.W.nsIn K mainGlobals "str" = some none) (z_list : PySem.W.nsIn K mainGlobals "list" = some none) (z_tuple : PySem.W.nsIn K mainGlobals "tuple" = some none) (z_dict : PySem.W.nsIn K mainGlobals "dict" = some none) (z_all : PySem.W.nsIn K mainGlobals "all" = some none) (z_any : PySem.W.nsIn K mainGlobals "any" = some none) (z_sum : PySem.W.nsIn K mainGlobals "sum" = some none) (z_max : PySem.W.nsIn K mainGlobals "max" = some none) (z_min : PySem.W.nsIn K mainGlobals "min" = some none) (z_sorted : PySem.W.nsIn K mainGlobals "sorted" = some none) (z_repr : PySem.W.nsIn K mainGlobals "repr" = some none) (z_isinstance : PySem.W.nsIn K mainGlobals "isinstance" = some none) (z_range : PySem.W.nsIn K mainGlobals "range" = some none) (z_enumerate : PySem.W.nsIn K mainGlobals "enumerate" = some none) (z_zip : PySem.W.nsIn K mainGlobals "zip" = some none) :
    ∃ fd : FuncData, (∀ (s : Shared) (u : Value), BindsTo s fd ⟨[u], []⟩ [("script", u)]) ∧ ∀ base : Heap, K.In base → base.Ns mainGlobals mg → LawAt l.prog w K mg base fa fd "script" 63 := by
  have hz : ∀ x ∈ bNames, mg x = none := by
    intro x hx
    simp only [bNames, List.mem_cons, List.not_mem_nil, or_false] at hx
    rcases hx with rfl | rfl | rfl | rfl | rfl | rfl | rfl | rfl | rfl | rfl | rfl | rfl | rfl | rfl | rfl | rfl | rfl | rfl | rfl
    · exact PySem.W.mg_none_of KX G z_len
    · exact PySem.W.mg_none_of KX G z_abs
    · exact PySem.W.mg_none_of KX G z_int
    · exact PySem.W.mg_none_of KX G z_bool
    · exact PySem.W.mg_none_of KX G z_str
    · exact PySem.W.mg_none_of KX G z_list
    · exact PySem.W.mg_none_of KX G z_tuple
    · exact PySem.W.mg_none_of KX G z_dict
    · exact PySem.W.mg_none_of KX G z_all
    · exact PySem.W.mg_none_of KX G z_any
    · exact PySem.W.mg_none_of KX G z_sum
    · exact PySem.W.mg_none_of KX G z_max
    · exact PySem.W.mg_none_of KX G z_min
    · exact PySem.W.mg_none_of KX G z_sorted
    · exact PySem.W.mg_none_of KX G z_repr
    · exact PySem.W.mg_none_of KX G z_isinstance
    · exact PySem.W.mg_none_of KX G z_range
    · exact PySem.W.mg_none_of KX G z_enumerate
    · exact PySem.W.mg_none_of KX G z_zip
  obtain ⟨fd, hb, hF⟩ := law_at (P := l.prog) (w := w) (Φ := Ph) (j := 24) (N := n_law) (a := a_law) (y := "script") d_law KX G b_law s_law_ok c_law_ok says_true (by decide) ⟨rfl, by decide +kernel, by decide +kernel⟩ hfa
  refine ⟨fd, hb, fun base hK hG => ?_⟩
  obtain ⟨B, S⟩ := chain (P := l.prog) (w := w) (base := base) KX G hz d_is_term d_multiplied_terms d_divides_term d_term_quotient d_is_term_sum d_told_term_sum d_added_term_sums d_multiplied_term_sums d_law_pick d_law_of d_law_is_int d_law_bent d_law_term d_law_is_term d_law_is_sum d_law_told d_law_sum d_src
  exact hF base B S
end K85
open PySem PySem.W PyProof.Rows in
set_option maxRecDepth 100000 in
set_option maxHeartbeats 0 in
theorem PySem.Challenge.cw_topplingsteps_k85_whole_terms_of_one_to_holds : PySem.Challenge.rw_topplingsteps_k85_whole_terms_of_one_to.Holds := by
  w_on; o_law; k_head; (case hw => w_witness2)
  k_fill
  refine Vm.walk (l := PySem.Challenge.rw_topplingsteps_k85_whole_terms_of_one_to) rfl rfl (fun w h Y => PySem.W.kIn_of Y) ?F
  case F =>
    intro w mg fa h KX G hmg
    refine' K85.all_mk KX G hmg ?d_is_term ?d_multiplied_terms ?d_divides_term ?d_term_quotient ?d_is_term_sum ?d_told_term_sum ?d_added_term_sums ?d_multiplied_term_sums ?d_law_pick ?d_law_of ?d_law_is_int ?d_law_bent ?d_law_term ?d_law_is_term ?d_law_is_sum ?d_law_told ?d_law_sum ?d_src ?d_law ?z_len ?z_abs ?z_int ?z_bool ?z_str ?z_list ?z_tuple ?z_dict ?z_all ?z_any ?z_sum ?z_max ?z_min ?z_sorted ?z_repr ?z_isinstance ?z_range ?z_enumerate ?z_zip
    (case d_is_term => refine' Vm.defAt_mk ?a ?l ?c ?k; (case a => k_is); (case l => k_is); (case c => k_is); (case k => k_is))
    (case d_multiplied_terms => refine' Vm.defAt_mk ?a ?l ?c ?k; (case a => k_is); (case l => k_is); (case c => k_is); (case k => k_is))
    (case d_divides_term => refine' Vm.defAt_mk ?a ?l ?c ?k; (case a => k_is); (case l => k_is); (case c => k_is); (case k => k_is))
    (case d_term_quotient => refine' Vm.defAt_mk ?a ?l ?c ?k; (case a => k_is); (case l => k_is); (case c => k_is); (case k => k_is))
    (case d_is_term_sum => refine' Vm.defAt_mk ?a ?l ?c ?k; (case a => k_is); (case l => k_is); (case c => k_is); (case k => k_is))
    (case d_told_term_sum => refine' Vm.defAt_mk ?a ?l ?c ?k; (case a => k_is); (case l => k_is); (case c => k_is); (case k => k_is))
    (case d_added_term_sums => refine' Vm.defAt_mk ?a ?l ?c ?k; (case a => k_is); (case l => k_is); (case c => k_is); (case k => k_is))
    (case d_multiplied_term_sums => refine' Vm.defAt_mk ?a ?l ?c ?k; (case a => k_is); (case l => k_is); (case c => k_is); (case k => k_is))
    (case d_law_pick => refine' Vm.defAt_mk ?a ?l ?c ?k; (case a => k_is); (case l => k_is); (case c => k_is); (case k => k_is))
    (case d_law_of => refine' Vm.defAt_mk ?a ?l ?c ?k; (case a => k_is); (case l => k_is); (case c => k_is); (case k => k_is))
    (case d_law_is_int => refine' Vm.defAt_mk ?a ?l ?c ?k; (case a => k_is); (case l => k_is); (case c => k_is); (case k => k_is))
    (case d_law_bent => refine' Vm.defAt_mk ?a ?l ?c ?k; (case a => k_is); (case l => k_is); (case c => k_is); (case k => k_is))
    (case d_law_term => refine' Vm.defAt_mk ?a ?l ?c ?k; (case a => k_is); (case l => k_is); (case c => k_is); (case k => k_is))
    (case d_law_is_term => refine' Vm.defAt_mk ?a ?l ?c ?k; (case a => k_is); (case l => k_is); (case c => k_is); (case k => k_is))
    (case d_law_is_sum => refine' Vm.defAt_mk ?a ?l ?c ?k; (case a => k_is); (case l => k_is); (case c => k_is); (case k => k_is))
    (case d_law_told => refine' Vm.defAt_mk ?a ?l ?c ?k; (case a => k_is); (case l => k_is); (case c => k_is); (case k => k_is))
    (case d_law_sum => refine' Vm.defAt_mk ?a ?l ?c ?k; (case a => k_is); (case l => k_is); (case c => k_is); (case k => k_is))
    (case d_src => refine' Vm.defAt_mk ?a ?l ?c ?k; (case a => k_is); (case l => k_is); (case c => k_is); (case k => k_is))
    (case d_law => refine' Vm.defAt_mk ?a ?l ?c ?k; (case a => k_is); (case l => k_is); (case c => k_is); (case k => k_is))
    (case z_len => k_is)
    (case z_abs => k_is)
    (case z_int => k_is)
    (case z_bool => k_is)
    (case z_str => k_is)
    (case z_list => k_is)
    (case z_tuple => k_is)
    (case z_dict => k_is)
    (case z_all => k_is)
    (case z_any => k_is)
    (case z_sum => k_is)
    (case z_max => k_is)
    (case z_min => k_is)
    (case z_sorted => k_is)
    (case z_repr => k_is)
    (case z_isinstance => k_is)
    (case z_range => k_is)
    (case z_enumerate => k_is)
    (case z_zip => k_is)

